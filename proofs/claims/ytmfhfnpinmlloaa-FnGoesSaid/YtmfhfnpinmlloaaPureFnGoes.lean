/- For all bytes: a hart of a memory that is drawn from them goes to where it may go, and as long as nobody writes it is where it may be: no conditions. -/
import Derived.Test.YtmfhfnpinmlloaaPFnGoesx11
import Derived.Lib.RowBridge
namespace Go.Proofs.Ytmfhfnpinmlloaa.Pure
open Go.RowKit Go.Proofs.Ytmfhfnpinmlloaa.PFnGoes Go.Proofs.YtmfhfnpinmlloaaW.PrintWords Go.Proofs.YtmfhfnpinmlloaaW.PrintLast
set_option linter.unusedVariables false
set_option linter.unusedSimpArgs false

theorem wrap_small {x : Int} (h0 : -9223372036854775808 ≤ x) (h : x ≤ 9223372036854775807) : wrap64 x = x := by
  unfold wrap64; omega
theorem wrap_succ {i : Nat} (h : i < 4611686018427387904) : wrap64 ((i : Int) + 1) = ((i + 1 : Nat) : Int) := by
  unfold wrap64; omega
theorem rd_nat (l : List Int) (i : Nat) (h : i < l.length) : rd l (i : Int) = l[i] := by
  unfold rd; simp [List.getD, h]
theorem rd_mem (l : List Int) (i : Nat) (h : i < l.length) : rd l (i : Int) ∈ l := by
  rw [rd_nat l i h]; exact List.getElem_mem h
/-- A loop whose state is known ahead of each round. -/
theorem for_st {σ ρ : Type} (n : Nat) (L : Nat → Nat → σ → Option ρ) (st : Nat → σ) (r : ρ) (hs : ∀ k i, i < n → L (k + 1) i (st i) = L k (i + 1) (st (i + 1))) (he : ∀ k, L (k + 1) n (st n) = some r) :
    ∀ (k i : Nat), i ≤ n → n < i + k → L k i (st i) = some r
  | 0, i, hi, hk => by omega
  | k + 1, i, hi, hk => by
    by_cases h : i < n
    · rw [hs k i h]; exact for_st n L st r hs he k (i + 1) (by omega) (by omega)
    · have : i = n := by omega
      subst this; exact he k
/-- A loop that ends at the first place where p holds. -/
theorem for_find {ρ : Type} (n : Nat) (L : Nat → Nat → Option ρ) (p : Nat → Prop) (b : Nat → ρ) (r : ρ) (hs : ∀ k i, i < n → ¬ p i → L (k + 1) i = L k (i + 1)) (hb : ∀ k i, i < n → p i → L (k + 1) i = some (b i)) (he : ∀ k, L (k + 1) n = some r) :
    ∀ (k i : Nat), i ≤ n → n < i + k → (∃ j, i ≤ j ∧ j < n ∧ p j ∧ (∀ m, i ≤ m → m < j → ¬ p m) ∧ L k i = some (b j)) ∨ (∀ j, i ≤ j → j < n → ¬ p j) ∧ L k i = some r
  | 0, i, hi, hk => by omega
  | k + 1, i, hi, hk => by
    by_cases h : i < n
    · by_cases hp : p i
      · exact .inl ⟨i, Nat.le_refl _, h, hp, fun m h1 h2 => by omega, hb k i h hp⟩
      · rw [hs k i h hp]
        rcases for_find n L p b r hs hb he k (i + 1) (by omega) (by omega) with ⟨j, h1, h2, h3, h4, h5⟩ | ⟨h1, h2⟩
        · refine .inl ⟨j, by omega, h2, h3, fun m hm1 hm2 => ?_, h5⟩
          by_cases e : m = i
          · subst e; exact hp
          · exact h4 m (by omega) hm2
        · refine .inr ⟨fun j hj1 hj2 => ?_, h2⟩
          by_cases e : j = i
          · subst e; exact hp
          · exact h1 j (by omega) hj2
    · have : i = n := by omega
      subst this; exact .inr ⟨fun j h1 h2 => by omega, he k⟩
/-- The same for a Bool: do all places pass? -/
theorem for_all {n : Nat} {L : Nat → Nat → Option Bool} (p : Nat → Prop) (hs : ∀ k i, i < n → p i → L (k + 1) i = L k (i + 1)) (hb : ∀ k i, i < n → ¬ p i → L (k + 1) i = some false) (c : Bool) (he : ∀ k, L (k + 1) n = some c) {q : Bool}
    (hq : q = true ↔ (∀ j, j < n → p j) ∧ c = true) (k : Nat) (hk : n < k) : L k 0 = some q := by
  rcases for_find n L (fun i => ¬ p i) (fun _ => false) c (fun k i h hp => hs k i h (Classical.not_not.1 hp)) (fun k i h hp => hb k i h hp) he k 0 (Nat.zero_le _) (by omega) with ⟨j, _, h2, h3, _, h5⟩ | ⟨h1, h2⟩
  · rw [h5]; congr 1; symm
    rw [Bool.eq_false_iff]; intro hh; exact h3 ((hq.1 hh).1 j h2)
  · rw [h2]; congr 1
    have : ∀ j, j < n → p j := fun j hj => Classical.not_not.1 (h1 j (Nat.zero_le _) hj)
    rw [Bool.eq_iff_iff, hq]; exact ⟨fun h => ⟨this, h⟩, fun h => h.2⟩
/-- What is written, place by place. -/
theorem set_step {α : Type} (a b : List α) (i : Nat) (hi : i < a.length) (hb : b.length = a.length) : (a.take i ++ b.drop i).set i (a[i]'hi) = a.take (i + 1) ++ b.drop (i + 1) := by
  rw [List.set_append_right _ _ (by simp; omega), List.length_take, Nat.min_eq_left (by omega), Nat.sub_self, List.take_succ_eq_append_getElem hi, List.append_assoc]
  congr 1
  rw [List.drop_eq_getElem_cons (by omega)]
  rfl
theorem snoc_step {α : Type} (a : List α) (i : Nat) (hi : i < a.length) : a.take i ++ [a[i]'hi] = a.take (i + 1) := by
  rw [List.take_succ_eq_append_getElem hi]
theorem eq_iff_all (a b : List Int) (h : a.length = b.length) : a = b ↔ ∀ j, j < a.length → rd a (j : Int) = rd b (j : Int) := by
  constructor
  · rintro rfl j _; rfl
  · intro hh; refine List.ext_getElem h (fun j h1 h2 => ?_)
    have := hh j h1
    rwa [rd_nat a j h1, rd_nat b j h2] at this
/-- What marks hold: s, s + 1, .. -/
def iota (s : Int) (n : Nat) : List Int := (List.range n).map fun (i : Nat) => s + (i : Int)
theorem iota_length (s : Int) (n : Nat) : (iota s n).length = n := by simp [iota]
theorem iota_get (s : Int) (n i : Nat) (h : i < n) : (iota s n)[i]'(by rw [iota_length]; exact h) = s + i := by simp [iota]
/-- The same as bytes. -/
def iota8 (s : Int) (n : Nat) : List Int := (List.range n).map fun (i : Nat) => (s + (i : Int)) % 256
theorem iota8_length (s : Int) (n : Nat) : (iota8 s n).length = n := by simp [iota8]
theorem iota8_get (s : Int) (n i : Nat) (h : i < n) : (iota8 s n)[i]'(by rw [iota8_length]; exact h) = (s + i) % 256 := by simp [iota8]
theorem wraps_i64 (n : Int) (h0 : 0 ≤ n) (h1 : n < 2 ^ 62) : IntKind.i64.wrap n = n := by rw [IntKind.wrap_i64]; omega
theorem and255 (x : Int) (h0 : 0 ≤ x) (h : x ≤ 65535) : Go.bits .and .i64 x 255 = x % 256 := bits_mask .i64 62 (by decide) wraps_i64 8 (by decide) x h0 (by omega)
/-- Does a search find something. -/
theorem idx_any {n : Nat} (L : Nat → Nat → Option Int) (q : Nat → Bool) (hs : ∀ k i, i < n → q i = false → L (k + 1) i = L k (i + 1)) (hb : ∀ k i, i < n → q i = true → L (k + 1) i = some (i : Int)) (he : ∀ k, L (k + 1) n = some (-1)) (r : Bool)
    (hr : r = true ↔ ∃ j, j < n ∧ q j = true) (k : Nat) (hk : n < k) : ∃ v, L k 0 = some v ∧ decide (v ≥ 0) = r := by
  rcases for_find n L (fun i => q i = true) (fun i => (i : Int)) (-1) (fun k i h hp => hs k i h (by simpa using hp)) hb he k 0 (Nat.zero_le _) (by omega) with ⟨j, _, h2, h3, _, h5⟩ | ⟨h1, h2⟩
  · refine ⟨_, h5, ?_⟩
    rw [decide_eq_true (by omega : (j : Int) ≥ 0)]; exact (hr.2 ⟨j, h2, h3⟩).symm
  · refine ⟨_, h2, ?_⟩
    rw [decide_eq_false (by omega : ¬ (-1 : Int) ≥ 0)]; symm; rw [Bool.eq_false_iff]; intro hh
    obtain ⟨j, hj, hq⟩ := hr.1 hh
    exact h1 j (Nat.zero_le _) hj hq
/-- A count that goes down, item by item, and stops below nothing. -/
theorem sz_loop {n C : Nat} {M : Int} (L : Nat → Nat → Int → Option Int) (P : Nat → Prop) (hs : ∀ k i a, i < n → C ≤ k → 0 ≤ a → a ≤ M → (∃ r, r < 0 ∧ L (k + 1) i a = some r) ∨ ∃ t, 0 ≤ t ∧ t ≤ a ∧ P i ∧ L (k + 1) i a = L k (i + 1) t)
    (he : ∀ k a, L (k + 1) n a = some a) : ∀ (m i : Nat) (a : Int), i ≤ n → n < i + m → 0 ≤ a → a ≤ M → ∃ r, L (m + C) i a = some r ∧ r ≤ a ∧ (0 ≤ r → ∀ j, i ≤ j → j < n → P j)
  | 0, i, a, hi, hm, _, _ => by omega
  | m + 1, i, a, hi, hm, h0, h1 => by
    rw [show m + 1 + C = (m + C) + 1 by omega]
    by_cases h : i < n
    · rcases hs (m + C) i a h (by omega) h0 h1 with ⟨r, hr, e⟩ | ⟨t, ht0, ht, hp, e⟩
      · exact ⟨r, e, by omega, fun h => by omega⟩
      · obtain ⟨r, e2, hr, hq⟩ := sz_loop L P hs he m (i + 1) t (by omega) (by omega) ht0 (by omega)
        refine ⟨r, by rw [e, e2], by omega, fun h0 j hj1 hj2 => ?_⟩
        by_cases c : j = i
        · subst c; exact hp
        · exact hq h0 j (by omega) hj2
    · have : i = n := by omega
      subst this
      exact ⟨a, he _ _, Int.le_refl _, fun _ j h1 h2 => by omega⟩
/-- A list made place by place. -/
theorem to_loop {α : Type} {C : Nat} (v z : List α) (hz : z.length = v.length) (L : Nat → Nat → List α → Option (List α)) (hs : ∀ k i s (hi : i < v.length), C ≤ k → s.length = v.length → L (k + 1) i s = L k (i + 1) (s.set i (v[i]'hi)))
    (he : ∀ k s, L (k + 1) v.length s = some s) (k : Nat) (hk : v.length + C < k) : L k 0 z = some v := by
  have h := for_st v.length (fun k' i (s : List α) => L (k' + C) i s) (fun i => v.take i ++ z.drop i) v ?_ ?_ (k - C) 0 (Nat.zero_le _) (by omega)
  · rw [show k - C + C = k by omega] at h; simpa using h
  · intro k' i hi
    rw [show k' + 1 + C = (k' + C) + 1 by omega, hs _ _ _ hi (by omega) (by simp; omega), set_step _ _ _ hi hz]
  · intro k'
    rw [show k' + 1 + C = (k' + C) + 1 by omega, he, List.take_of_length_le (Nat.le_refl _), List.drop_of_length_le (by omega), List.append_nil]
/-- Equal, place by place. -/
theorem same_loop {n C : Nat} (L : Nat → Nat → Option Bool) (hs : ∀ k i, i < n → C ≤ k → L (k + 1) i = L k (i + 1)) (he : ∀ k, L (k + 1) n = some true) (k : Nat) (hk : n + C < k) : L k 0 = some true := by
  have h := for_st n (fun k' i (_ : Unit) => L (k' + C) i) (fun _ => ()) true ?_ ?_ (k - C) 0 (Nat.zero_le _) (by omega)
  · rw [show k - C + C = k by omega] at h; exact h
  · intro k' i hi; rw [show k' + 1 + C = (k' + C) + 1 by omega, hs _ _ hi (by omega)]
  · intro k'; rw [show k' + 1 + C = (k' + C) + 1 by omega, he]
def wordsB (l : List Int) (n : Int) : Bool := decide ((l.length : Int) = n) && l.all (fun x => decide (0 ≤ x ∧ x ≤ 65535))
theorem wordsB_mem {l : List Int} {n : Int} (h : wordsB l n = true) (x : Int) (hx : x ∈ l) : 0 ≤ x ∧ x ≤ 65535 := by
  unfold wordsB at h; rw [Bool.and_eq_true, List.all_eq_true] at h; exact of_decide_eq_true (h.2 x hx)
/-- Is it a hart: four words, a cell, a state. -/
def hartB (regs : List Int) (pc st : Int) : Bool := wordsB regs 4 && (decide (0 ≤ pc ∧ pc ≤ 23) && decide (0 ≤ st ∧ st ≤ 2))
theorem ite_some' (b c : Bool) : (if b = true then some c else some false) = some (b && c) := by cases b <;> rfl
theorem hartB_len {r : List Int} {p s : Int} (h : hartB r p s = true) : r.length = 4 := by
  unfold hartB wordsB at h; rw [Bool.and_eq_true, Bool.and_eq_true] at h; have := of_decide_eq_true h.1.1; omega
theorem wordsB_24 {l : List Int} (h : wordsB l 24 = true) : l.length = 24 := by unfold wordsB at h; rw [Bool.and_eq_true] at h; have := of_decide_eq_true h.1; omega
theorem tmod_pos (n c : Int) (h : 0 ≤ n) : Int.tmod n c = n % c := Int.tmod_eq_emod_of_nonneg h
theorem tmod_neg (n c : Int) (h : n < 0) : Int.tmod n c = -((-n) % c) := by
  rw [← Int.tmod_eq_emod_of_nonneg (by omega : 0 ≤ -n), Int.neg_tmod, Int.neg_neg]
theorem tdiv_pos (n c : Int) (h : 0 ≤ n) : Int.tdiv n c = n / c := Int.tdiv_eq_ediv_of_nonneg h
/-- A remainder brought up from below nothing. -/
theorem tmod_up (n c : Int) (hc : 0 < c) (hb : c ≤ 4294967296) : Int.tmod (Int.tmod n c + c) c = n % c := by
  have h1 := Int.emod_nonneg n (by omega : c ≠ 0)
  have h2 := Int.emod_lt_of_pos n hc
  rcases Int.lt_or_le n 0 with h | h
  · rw [tmod_neg n c h]
    have h3 := Int.emod_nonneg (-n) (by omega : c ≠ 0)
    have h4 := Int.emod_lt_of_pos (-n) hc
    rw [tmod_pos _ _ (by omega), Int.add_emod_right, ← Int.sub_emod_right]
    have := Int.emod_add_mul_ediv (-n) c
    have e : -(-n % c) - c = n + c * ((-n) / c - 1) := by
      have : n = -(-n % c) - c * ((-n) / c) := by omega
      rw [Int.mul_sub]; omega
    rw [e, Int.add_mul_emod_self_left]
  · rw [tmod_pos n c h, tmod_pos _ _ (by omega), Int.add_emod_right, Int.emod_emod_of_dvd _ (Int.dvd_refl c)]
theorem tmod_bd (n c : Int) (hc : 0 < c) : -c < Int.tmod n c ∧ Int.tmod n c < c := by
  rcases Int.lt_or_le n 0 with h | h
  · rw [tmod_neg n c h]
    have h3 := Int.emod_nonneg (-n) (by omega : c ≠ 0)
    have h4 := Int.emod_lt_of_pos (-n) hc
    omega
  · rw [tmod_pos n c h]
    have h3 := Int.emod_nonneg n (by omega : c ≠ 0)
    have h4 := Int.emod_lt_of_pos n hc
    omega
/-- for_st, where some rounds stay over. -/
theorem for_stC {σ ρ : Type} (C n : Nat) (L : Nat → Nat → σ → Option ρ) (st : Nat → σ) (r : ρ) (hs : ∀ k i, C ≤ k → i < n → L (k + 1) i (st i) = L k (i + 1) (st (i + 1))) (he : ∀ k, C ≤ k → L (k + 1) n (st n) = some r) :
    ∀ (k i : Nat), i ≤ n → n + C < i + k → L k i (st i) = some r
  | 0, i, hi, hk => by omega
  | k + 1, i, hi, hk => by
    by_cases h : i < n
    · rw [hs k i (by omega) h]; exact for_stC C n L st r hs he k (i + 1) (by omega) (by omega)
    · have : i = n := by omega
      subst this; exact he k (by omega)
theorem l1In_eq (x lo hi : Int) : spec_l1In.f x lo hi = some (decide (lo ≤ x ∧ x ≤ hi)) := by
  unfold spec_l1In.f
  by_cases h : x ≥ lo
  · rw [if_pos h]; have h' : lo ≤ x := h; simp [h']
  · rw [if_neg h]; have h' : ¬ lo ≤ x := h; simp [h']
theorem from_eq (x lo hi : Int) : impl_from.f x lo hi = some (decide (lo ≤ x ∧ x ≤ hi)) := by
  unfold impl_from.f
  by_cases h : x ≥ lo
  · rw [if_pos h]; have h' : lo ≤ x := h; simp [h']
  · rw [if_neg h]; have h' : ¬ lo ≤ x := h; simp [h']
theorem isWord_eq (x : Int) : impl_isWord.f x = some (decide (0 ≤ x ∧ x ≤ 65535)) := by
  unfold impl_isWord.f; rw [from_eq]; rfl
theorem isCell_eq (x : Int) : impl_isCell.f x = some (decide (0 ≤ x ∧ x ≤ 23)) := by
  unfold impl_isCell.f; rw [from_eq]; rfl
theorem l1Words_eq (l : List Int) (n : Int) (hl : l.length ≤ 2097152) (k : Nat) (hk : l.length < k) : spec_l1Words.f k l n = some (wordsB l n) := by
  unfold spec_l1Words.f
  refine for_all (L := fun k i => spec_l1Words.l0 k l n (i : Int)) (n := l.length) (fun j => 0 ≤ rd l (j : Int) ∧ rd l (j : Int) ≤ 65535) ?_ ?_ (decide ((l.length : Int) = n)) ?_ ?_ k hk
  · intro k i hi hp
    simp only [spec_l1Words.l0]
    rw [if_pos (by omega), if_pos (by omega), l1In_eq, decide_eq_true hp, Option.bind_some, if_pos rfl, wrap_succ (by omega)]
  · intro k i hi hp
    simp only [spec_l1Words.l0]
    rw [if_pos (by omega), if_pos (by omega), l1In_eq, decide_eq_false hp, Option.bind_some, if_neg (by simp)]
  · intro k
    simp only [spec_l1Words.l0]
    rw [if_neg (by omega)]; rfl
  · unfold wordsB
    rw [Bool.and_eq_true, List.all_eq_true]
    constructor
    · rintro ⟨h1, h2⟩; exact ⟨fun j hj => of_decide_eq_true (h2 _ (rd_mem l j hj)), h1⟩
    · rintro ⟨h1, h2⟩; refine ⟨h2, fun x hx => ?_⟩
      obtain ⟨j, hj, rfl⟩ := List.getElem_of_mem hx
      have := h1 j hj; rw [rd_nat l j hj] at this; exact decide_eq_true this
theorem wordsOk_eq (l : List Int) (n : Int) (hl : l.length ≤ 2097152) (k : Nat) (hk : l.length < k) : impl_wordsOk.f k l n = some (wordsB l n) := by
  unfold impl_wordsOk.f
  by_cases h : (l.length : Int) = n
  · rw [if_pos h]
    unfold slices_ContainsFunc_at_impl_wordsOk_1.f slices_IndexFunc_at_impl_wordsOk_1.f
    have hf : ∀ x, impl_wordsOk_1.f x = some (!decide (0 ≤ x ∧ x ≤ 65535)) := fun x => by unfold impl_wordsOk_1.f; rw [isWord_eq]; rfl
    have hs : ∀ k i, i < l.length → ¬ ¬ (0 ≤ rd l (i : Int) ∧ rd l (i : Int) ≤ 65535) → slices_IndexFunc_at_impl_wordsOk_1.l0 (k + 1) l (l.length : Int) (i : Int) = slices_IndexFunc_at_impl_wordsOk_1.l0 k l (l.length : Int) ((i + 1 : Nat) : Int) := by
      intro k i hi hp
      simp only [slices_IndexFunc_at_impl_wordsOk_1.l0]
      rw [if_pos (by omega), if_pos (by omega), if_pos (by omega), hf, decide_eq_true (Classical.not_not.1 hp), Option.bind_some, if_neg (by simp), wrap_succ (by omega)]
    have hb : ∀ k i, i < l.length → ¬ (0 ≤ rd l (i : Int) ∧ rd l (i : Int) ≤ 65535) → slices_IndexFunc_at_impl_wordsOk_1.l0 (k + 1) l (l.length : Int) (i : Int) = some (i : Int) := by
      intro k i hi hp
      simp only [slices_IndexFunc_at_impl_wordsOk_1.l0]
      rw [if_pos (by omega), if_pos (by omega), if_pos (by omega), hf, decide_eq_false hp, Option.bind_some, if_pos (by simp)]
    have he : ∀ k, slices_IndexFunc_at_impl_wordsOk_1.l0 (k + 1) l (l.length : Int) (l.length : Int) = some (-1) := by
      intro k
      simp only [slices_IndexFunc_at_impl_wordsOk_1.l0]
      rw [if_neg (by omega)]
    rcases for_find l.length (fun k i => slices_IndexFunc_at_impl_wordsOk_1.l0 k l (l.length : Int) (i : Int)) (fun j => ¬ (0 ≤ rd l (j : Int) ∧ rd l (j : Int) ≤ 65535)) (fun j => (j : Int)) (-1) hs hb he k 0 (Nat.zero_le _) (by omega) with ⟨j, _, h2, h3, _, h5⟩ | ⟨h1, h2⟩
    · have h5' : slices_IndexFunc_at_impl_wordsOk_1.l0 k l (l.length : Int) 0 = some (j : Int) := h5
      rw [h5']
      simp only [Option.bind_some]; congr 1; symm
      rw [decide_eq_true (by omega : (j : Int) ≥ 0), Bool.not_true, wordsB, Bool.and_eq_false_iff]; right
      rw [Bool.eq_false_iff]; intro hh
      exact h3 (of_decide_eq_true (List.all_eq_true.1 hh _ (rd_mem l j h2)))
    · have h2' : slices_IndexFunc_at_impl_wordsOk_1.l0 k l (l.length : Int) 0 = some (-1) := h2
      rw [h2']
      simp only [Option.bind_some]; congr 1; symm
      rw [decide_eq_false (by omega : ¬ (-1 : Int) ≥ 0), Bool.not_false, wordsB, decide_eq_true h, Bool.true_and, List.all_eq_true]
      intro x hx
      obtain ⟨j, hj, rfl⟩ := List.getElem_of_mem hx
      have := Classical.not_not.1 (h1 j (Nat.zero_le _) hj); rw [rd_nat l j hj] at this; exact decide_eq_true this
  · rw [if_neg h, wordsB, decide_eq_false h, Bool.false_and]
theorem memOk_eq (l : List Int) (hl : l.length ≤ 2097152) (k : Nat) (hk : l.length < k) : impl_memOk.f k l = some (wordsB l 24) := by
  unfold impl_memOk.f; rw [wordsOk_eq l 24 hl k hk]; rfl
theorem insOkB_bounds {o r a b n : Int} (h : insOkB o r a b n = true) : 1 ≤ o ∧ o ≤ 10 ∧ 0 ≤ r ∧ r ≤ 3 ∧ 0 ≤ a ∧ a ≤ 3 ∧ 0 ≤ b ∧ b ≤ 3 ∧ 0 ≤ n ∧ n ≤ 63 := by
  unfold insOkB at h
  simp only [Bool.and_eq_true, decide_eq_true_eq] at h
  obtain ⟨h0, ⟨h1, h1'⟩, ⟨h2, h2'⟩, ⟨h3, h3'⟩, ⟨h4, h4'⟩⟩ := h
  refine ⟨?_, ?_, h1, h1', h2, h2', h3, h3', h4, h4'⟩
  · by_cases c : 1 ≤ o
    · exact c
    · exfalso
      rw [if_neg (by omega), if_neg (by omega), if_neg (by omega), if_neg (by omega), if_neg (by omega), if_neg (by omega), if_neg (by omega), if_neg (by omega), if_neg (by omega), if_neg (by omega)] at h0
      cases h0
  · by_cases c : o ≤ 10
    · exact c
    · exfalso
      rw [if_neg (by omega), if_neg (by omega), if_neg (by omega), if_neg (by omega), if_neg (by omega), if_neg (by omega), if_neg (by omega), if_neg (by omega), if_neg (by omega), if_neg (by omega)] at h0
      cases h0
theorem ite_some (b c : Bool) : (if b = true then some c else some false) = some (b && c) := by cases b <;> rfl
theorem l8Field_eq (x m : Int) (h : Bool) : spec_l8Field.f x m h = some (decide (0 ≤ x ∧ x ≤ m) && (h || decide (x = 0))) := by
  unfold spec_l8Field.f
  rw [l1In_eq, Option.bind_some]
  have e : (x == 0) = decide (x = 0) := rfl
  rw [e]
  cases h <;> simp only [if_true, Bool.false_eq_true, if_false, Bool.true_or, Bool.false_or, ite_some]
theorem specInsOk_eq (o r a b n : Int) : spec_InsOk.f o r a b n = some (insOkB o r a b n) := by
  unfold spec_InsOk.f spec_l8Has.f
  simp only [l1In_eq, l8Field_eq, Option.bind_some, ite_some]
  by_cases ho : 1 ≤ o ∧ o ≤ 10
  · have hc : o = 1 ∨ o = 2 ∨ o = 3 ∨ o = 4 ∨ o = 5 ∨ o = 6 ∨ o = 7 ∨ o = 8 ∨ o = 9 ∨ o = 10 := by omega
    rw [decide_eq_true ho]
    rcases hc with rfl | rfl | rfl | rfl | rfl | rfl | rfl | rfl | rfl | rfl <;>
      (simp only [if_true, Option.bind_some, List.length_cons, List.length_nil]
       rw [if_pos (by omega), if_pos (by omega)]
       simp only [rd, Option.bind_some, Bool.true_and]
       congr 1
       rw [Bool.eq_iff_iff]
       simp [insOkB, show Go.bits .and .i64 0 1 = 0 by decide, show Go.bits .and .i64 0 2 = 0 by decide, show Go.bits .and .i64 0 4 = 0 by decide, show Go.bits .and .i64 0 8 = 0 by decide,
        show Go.bits .and .i64 7 1 = 1 by decide, show Go.bits .and .i64 7 2 = 2 by decide, show Go.bits .and .i64 7 4 = 4 by decide, show Go.bits .and .i64 7 8 = 0 by decide,
        show Go.bits .and .i64 8 1 = 0 by decide, show Go.bits .and .i64 8 2 = 0 by decide, show Go.bits .and .i64 8 4 = 0 by decide, show Go.bits .and .i64 8 8 = 8 by decide,
        show Go.bits .and .i64 9 1 = 1 by decide, show Go.bits .and .i64 9 2 = 0 by decide, show Go.bits .and .i64 9 4 = 0 by decide, show Go.bits .and .i64 9 8 = 8 by decide,
        show Go.bits .and .i64 10 1 = 0 by decide, show Go.bits .and .i64 10 2 = 2 by decide, show Go.bits .and .i64 10 4 = 0 by decide, show Go.bits .and .i64 10 8 = 8 by decide,
        show Go.bits .and .i64 11 1 = 1 by decide, show Go.bits .and .i64 11 2 = 2 by decide, show Go.bits .and .i64 11 4 = 0 by decide, show Go.bits .and .i64 11 8 = 8 by decide,
        show Go.bits .and .i64 14 1 = 0 by decide, show Go.bits .and .i64 14 2 = 2 by decide, show Go.bits .and .i64 14 4 = 4 by decide, show Go.bits .and .i64 14 8 = 8 by decide,
        show Go.bits .and .i64 15 1 = 1 by decide, show Go.bits .and .i64 15 2 = 2 by decide, show Go.bits .and .i64 15 4 = 4 by decide, show Go.bits .and .i64 15 8 = 8 by decide]
       try omega)
  · have hn : ∀ c, 1 ≤ c → c ≤ 10 → o ≠ c := fun c h1 h2 e => ho (by omega)
    simp [ho, insOkB, hn]
theorem implHartOk_eq (regs : List Int) (pc st : Int) (hl : regs.length ≤ 2097152) (k : Nat) (hk : regs.length < k) : impl_HartOk.f k regs pc st = some (hartB regs pc st) := by
  unfold impl_HartOk.f hartB
  simp only [wordsOk_eq regs 4 hl k hk, isCell_eq, from_eq, Option.bind_some, ite_some']
theorem specHartOk_eq (regs : List Int) (pc st : Int) (hl : regs.length ≤ 2097152) (k : Nat) (hk : regs.length < k) : spec_HartOk.f k regs pc st = some (hartB regs pc st) := by
  unfold spec_HartOk.f hartB
  simp only [l1Words_eq regs 4 hl k hk, l1In_eq, Option.bind_some, ite_some']
theorem and_range (x : Int) (m : Nat) (hm : m < 2 ^ 62) : 0 ≤ Go.bits .and .i64 x (m : Int) ∧ Go.bits .and .i64 x (m : Int) ≤ (m : Int) := by
  have h : (BitVec.ofInt 64 x &&& BitVec.ofInt 64 (m : Int)).toNat ≤ m := by
    rw [BitVec.toNat_and]
    refine Nat.le_trans Nat.and_le_right ?_
    rw [BitVec.ofInt_natCast, BitVec.toNat_ofNat]
    exact Nat.mod_le _ _
  have e : Go.bits .and .i64 x (m : Int) = (((BitVec.ofInt 64 x &&& BitVec.ofInt 64 (m : Int)).toNat : Nat) : Int) := by
    show IntKind.i64.wrap (((BitVec.ofInt 64 x &&& BitVec.ofInt 64 (m : Int)).toNat : Nat) : Int) = _
    exact wraps_i64 _ (by omega) (by omega)
  rw [e]; omega
/-- Where a cursor may stand. -/
def curOk (c : List Int) (i : Int) : Prop := c.length ≤ 1048576 ∧ 0 ≤ i ∧ i ≤ (c.length : Int)
theorem l1New_ex (c : List Int) (hc : c.length ≤ 1048576) (k : Nat) (hk : 4010 < k) : ∃ i s, spec_l1New.f k c = some (c, i, s) ∧ curOk c i := by
  unfold spec_l1New.f
  have h : ∀ (k j : Nat) (s : Int), j ≤ 4000 → 4000 < j + k → ∃ i s', spec_l1New.l0 k c s (j : Int) = some (c, i, s') ∧ curOk c i := by
    intro k
    induction k with
    | zero => intro j s h1 h2; omega
    | succ k ih =>
      intro j s h1 h2
      rw [spec_l1New.l0]
      by_cases h : (j : Int) < (c.length : Int)
      · rw [if_pos h]
        by_cases h' : (j : Int) < 4000
        · rw [if_pos h', if_pos (by omega), wrap_succ (by omega)]; exact ih _ _ (by omega) (by omega)
        · rw [if_neg h']; exact ⟨_, _, rfl, hc, by omega, by omega⟩
      · rw [if_neg h]; exact ⟨_, _, rfl, hc, by omega, by omega⟩
  exact h k 0 _ (by omega) (by omega)
theorem l1Byte_ex (c : List Int) (i s : Int) (h : curOk c i) : ∃ b i' s', spec_l1Byte.f c i s = some (b, i', s') ∧ 0 ≤ b ∧ b ≤ 255 ∧ curOk c i' := by
  unfold spec_l1Byte.f
  obtain ⟨h1, h2, h3⟩ := h
  by_cases hl : i < (c.length : Int)
  · rw [if_pos hl, if_pos h2]
    have hr := fun x => and_range x 255 (by decide)
    exact ⟨_, _, _, rfl, (hr _).1, (hr _).2, h1, by unfold wrap64; omega, by unfold wrap64; omega⟩
  · rw [if_neg hl]
    have hr := fun x => and_range x 255 (by decide)
    exact ⟨_, _, _, rfl, (hr _).1, (hr _).2, h1, h2, h3⟩
theorem l1Below_ex (c : List Int) (i s : Int) (h : curOk c i) (n : Int) (hn : 0 < n) (hb : n ≤ 4294967296) : ∃ v i' s', spec_l1Below.f c i s n = some (v, i', s') ∧ 0 ≤ v ∧ v < n ∧ curOk c i' := by
  unfold spec_l1Below.f
  rw [if_neg (by omega)]
  by_cases hs : n ≤ 256
  · obtain ⟨b, i1, s1, e, h0, h1, hc⟩ := l1Byte_ex c i s h
    rw [if_pos hs, e, Option.bind_some, if_neg (by omega)]
    exact ⟨_, _, _, rfl, Int.tmod_nonneg _ h0, Int.tmod_lt_of_pos _ hn, hc⟩
  · obtain ⟨b1, i1, s1, e1, p1, q1, c1⟩ := l1Byte_ex c i s h
    obtain ⟨b2, i2, s2, e2, p2, q2, c2⟩ := l1Byte_ex c i1 s1 c1
    obtain ⟨b3, i3, s3, e3, p3, q3, c3⟩ := l1Byte_ex c i2 s2 c2
    obtain ⟨b4, i4, s4, e4, p4, q4, c4⟩ := l1Byte_ex c i3 s3 c3
    rw [if_neg hs]
    simp only [e1, e2, e3, e4, Option.bind_some]
    rw [if_neg (by omega)]
    exact ⟨_, _, _, rfl, Int.tmod_nonneg _ (by unfold wrap64; omega), Int.tmod_lt_of_pos _ hn, c4⟩
theorem l1Once_ex (c : List Int) (i s : Int) (h : curOk c i) (n : Int) (hn : 0 < n) (hb : n ≤ 4294967296) : ∃ v i' s', spec_l1Once.f c i s n = some (v, i', s') ∧ curOk c i' := by
  unfold spec_l1Once.f
  obtain ⟨v, i1, s1, e, _, _, hc⟩ := l1Below_ex c i s h n hn hb
  rw [e, Option.bind_some]
  exact ⟨_, _, _, rfl, hc⟩
theorem l1PickInt_ex (c : List Int) (i s : Int) (h : curOk c i) (l : List Int) (h0 : 0 < l.length) (h1 : l.length ≤ 1000) : ∃ v i' s', spec_l1PickInt.f c i s l = some (v, i', s') ∧ v ∈ l ∧ curOk c i' := by
  unfold spec_l1PickInt.f
  obtain ⟨v, i1, s1, e, p, q, hc⟩ := l1Below_ex c i s h (l.length : Int) (by omega) (by omega)
  rw [e, Option.bind_some, if_pos p, if_pos q]
  refine ⟨_, _, _, rfl, ?_, hc⟩
  obtain ⟨j, rfl⟩ : ∃ j : Nat, v = (j : Int) := ⟨v.toNat, by omega⟩
  exact rd_mem l j (by omega)
theorem l8Has_ex (o : Int) (h0 : 1 ≤ o) (h1 : o ≤ 10) : ∃ v, spec_l8Has.f o = some v := by
  unfold spec_l8Has.f
  rw [l1In_eq, decide_eq_true ⟨h0, h1⟩, Option.bind_some, if_pos rfl, Option.bind_some, if_pos (by omega), if_pos (by simp; omega)]
  exact ⟨_, rfl⟩
theorem drawIns_j1 (x : Int) (c : List Int) (i s : Int) (h : curOk c i) (o r a b n : Int) (k : Nat) : ∃ o' r' a' b' n' i' s', spec_l8DrawIns.j1 (k + 1) x c i s o r a b n = some (o', r', a', b', n', i', s') ∧ curOk c i' := by
  rw [spec_l8DrawIns.j1]
  obtain ⟨v, i1, s1, e1, _, _, c1⟩ := l1Below_ex c i s h 4 (by omega) (by omega)
  obtain ⟨v2, i2, s2, e2, _, c2⟩ := l1PickInt_ex c i s h [0, 1, 2, 4, 8, 9, 12, 20, 23] (by simp) (by simp)
  obtain ⟨v3, i3, s3, e3, _, c3⟩ := l1PickInt_ex c i1 s1 c1 [0, 1, 2, 4, 8, 9, 12, 20, 23] (by simp) (by simp)
  by_cases h1 : Go.bits .and .i64 x 4 = 0
  · rw [if_pos h1]
    by_cases h2 : Go.bits .and .i64 x 8 = 0
    · rw [if_pos h2]; exact ⟨_, _, _, _, _, _, _, rfl, h⟩
    · rw [if_neg h2, e2, Option.bind_some]; exact ⟨_, _, _, _, _, _, _, rfl, c2⟩
  · rw [if_neg h1, e1, Option.bind_some]
    by_cases h2 : Go.bits .and .i64 x 8 = 0
    · rw [if_pos h2]; exact ⟨_, _, _, _, _, _, _, rfl, c1⟩
    · rw [if_neg h2]
      simp only [e3, Option.bind_some]; exact ⟨_, _, _, _, _, _, _, rfl, c3⟩
theorem drawIns_j0 (x : Int) (c : List Int) (i s : Int) (h : curOk c i) (o r a b n : Int) (k : Nat) : ∃ o' r' a' b' n' i' s', spec_l8DrawIns.j0 (k + 2) x c i s o r a b n = some (o', r', a', b', n', i', s') ∧ curOk c i' := by
  rw [spec_l8DrawIns.j0]
  obtain ⟨v, i1, s1, e1, _, _, c1⟩ := l1Below_ex c i s h 4 (by omega) (by omega)
  by_cases h1 : Go.bits .and .i64 x 2 = 0
  · rw [if_pos h1]; exact drawIns_j1 x c i s h o r a b n k
  · rw [if_neg h1, e1, Option.bind_some]; exact drawIns_j1 x c i1 s1 c1 o r v b n k
theorem drawIns_ex (c : List Int) (i s : Int) (h : curOk c i) (k : Nat) (hk : 2 ≤ k) : ∃ o r a b n i' s', spec_l8DrawIns.f k c i s = some (o, r, a, b, n, i', s') ∧ curOk c i' := by
  obtain ⟨k, rfl⟩ : ∃ m, k = m + 2 := ⟨k - 2, by omega⟩
  unfold spec_l8DrawIns.f
  obtain ⟨o, i1, s1, e1, ho, c1⟩ := l1PickInt_ex c i s h [1, 1, 2, 3, 3, 4, 4, 5, 5, 5, 6, 6, 7, 8, 9, 10] (by simp) (by simp)
  have ho' : 1 ≤ o ∧ o ≤ 10 := by simp at ho; omega
  obtain ⟨x, ex⟩ := l8Has_ex o ho'.1 ho'.2
  rw [e1, Option.bind_some]
  simp only [ex, Option.bind_some]
  by_cases h1 : Go.bits .and .i64 x 1 = 0
  · rw [if_pos h1]; exact drawIns_j0 x c i1 s1 c1 o 0 0 0 0 k
  · obtain ⟨v, i2, s2, e2, _, _, c2⟩ := l1Below_ex c i1 s1 c1 4 (by omega) (by omega)
    rw [if_neg h1, e2, Option.bind_some]; exact drawIns_j0 x c i2 s2 c2 o v 0 0 0 k
theorem l8Has_any (o : Int) : ∃ v, spec_l8Has.f o = some v := by
  by_cases h : 1 ≤ o ∧ o ≤ 10
  · exact l8Has_ex o h.1 h.2
  · unfold spec_l8Has.f
    rw [l1In_eq, decide_eq_false h, Option.bind_some, if_neg (by simp)]
    exact ⟨_, rfl⟩
theorem l8Field_any (x m : Int) (h : Bool) : ∃ v, spec_l8Field.f x m h = some v := by
  unfold spec_l8Field.f
  rw [l1In_eq, Option.bind_some]
  repeat' split
  all_goals exact ⟨_, rfl⟩
theorem specInsOk_any (o r a b n : Int) : ∃ v, spec_InsOk.f o r a b n = some v := by
  unfold spec_InsOk.f
  obtain ⟨v, e⟩ := l8Has_any o
  rw [e, Option.bind_some, l1In_eq, Option.bind_some]
  split
  · obtain ⟨v1, e1⟩ := l8Field_any r 3 ((Go.bits .and .i64 v 1) != 0)
    rw [e1, Option.bind_some]
    split
    · obtain ⟨v2, e2⟩ := l8Field_any a 3 ((Go.bits .and .i64 v 2) != 0)
      rw [e2, Option.bind_some]
      split
      · obtain ⟨v3, e3⟩ := l8Field_any b 3 ((Go.bits .and .i64 v 4) != 0)
        rw [e3, Option.bind_some]
        split
        · obtain ⟨v4, e4⟩ := l8Field_any n 63 ((Go.bits .and .i64 v 8) != 0)
          rw [e4, Option.bind_some]; exact ⟨_, rfl⟩
        · exact ⟨_, rfl⟩
      · exact ⟨_, rfl⟩
    · exact ⟨_, rfl⟩
  · exact ⟨_, rfl⟩
theorem specCode_fn : ∃ cf : Int → Int → Int → Int → Int → Int × Bool, ∀ o r a b n, spec_Code.f o r a b n = some (cf o r a b n) := by
  have h : ∀ o r a b n, ∃ v, spec_Code.f o r a b n = some v := fun o r a b n => by
    unfold spec_Code.f
    obtain ⟨v, e⟩ := specInsOk_any o r a b n
    rw [e, Option.bind_some]
    split <;> exact ⟨_, rfl⟩
  exact ⟨fun o r a b n => (h o r a b n).choose, fun o r a b n => (h o r a b n).choose_spec⟩
theorem drawMem_l1 (c : List Int) (i s : Int) (T : List S41) (hT : T.length = 4) : ∀ (k j : Nat) (m : List Int), m.length = 24 → j ≤ 4 → 4 < j + k → ∃ m', spec_l9DrawMem.l1 k m T (j : Int) c i s = some (m', i, s) ∧ m'.length = 24
  | 0, j, m, _, h1, h2 => by omega
  | k + 1, j, m, hm, h1, h2 => by
    obtain ⟨cf, hcf⟩ := specCode_fn
    rw [spec_l9DrawMem.l1]
    by_cases h : j < 4
    · rw [if_pos (by omega), if_pos (by omega), hcf, Option.bind_some, if_pos (by omega), wrap_succ (by omega)]
      exact drawMem_l1 c i s T hT k (j + 1) _ (by simpa using hm) (by omega) (by omega)
    · rw [if_neg (by omega)]; exact ⟨m, rfl, hm⟩
theorem drawMem_l2 (c : List Int) (i s : Int) (T : List S41) (hT : T.length = 4) : ∀ (k j : Nat) (m : List Int), m.length = 24 → j ≤ 4 → 4 < j + k → ∃ m', spec_l9DrawMem.l2 k m T (j : Int) c i s = some (m', i, s) ∧ m'.length = 24
  | 0, j, m, _, h1, h2 => by omega
  | k + 1, j, m, hm, h1, h2 => by
    obtain ⟨cf, hcf⟩ := specCode_fn
    rw [spec_l9DrawMem.l2]
    by_cases h : j < 4
    · rw [if_pos (by omega), if_pos (by omega), hcf, Option.bind_some, if_pos (by omega), wrap_succ (by omega)]
      exact drawMem_l2 c i s T hT k (j + 1) _ (by simpa using hm) (by omega) (by omega)
    · rw [if_neg (by omega)]; exact ⟨m, rfl, hm⟩
theorem drawMem_l0 (c : List Int) : ∀ (k j : Nat) (m : List Int) (i s : Int), curOk c i → m.length = j → j ≤ 24 → 40 < j + k → ∃ m' i' s', spec_l9DrawMem.l0 k m (j : Int) c i s = some (m', i', s') ∧ m'.length = 24 ∧ curOk c i'
  | 0, j, m, i, s, _, _, h1, h2 => by omega
  | k + 1, j, m, i, s, hc, hm, h1, h2 => by
    obtain ⟨cf, hcf⟩ := specCode_fn
    rw [spec_l9DrawMem.l0]
    by_cases h : j < 24
    · obtain ⟨o, r, a, b, n, i1, s1, e1, c1⟩ := drawIns_ex c i s hc k (by omega)
      rw [if_pos (by omega), e1, Option.bind_some, hcf, Option.bind_some]
      obtain ⟨v2, i2, s2, e2, _, c2⟩ := l1PickInt_ex c i1 s1 c1 [0, 1, 5, 65535] (by simp) (by simp)
      obtain ⟨v3, i3, s3, e3, c3⟩ := l1Once_ex c i1 s1 c1 9 (by omega) (by omega)
      obtain ⟨v4, i4, s4, e4, _, c4⟩ := l1PickInt_ex c i3 s3 c3 [0, 1, 5, 65535] (by simp) (by simp)
      have next : ∀ (x : Int) i s, curOk c i → ∃ m' i' s', (if m.length < 17592186044416 then (spec_l9DrawMem.l0 k (m ++ [x]) (wrap64 ((j : Int) + 1)) c i s) else none) = some (m', i', s') ∧ m'.length = 24 ∧ curOk c i' := by
        intro x i s hc
        rw [if_pos (by omega), wrap_succ (by omega)]
        exact drawMem_l0 c k (j + 1) _ i s hc (by simp; omega) (by omega) (by omega)
      by_cases h15 : (j : Int) > 15
      · rw [if_pos h15]
        simp only [e2, Option.bind_some]; exact next _ _ _ c2
      · rw [if_neg h15]
        simp only [e3, Option.bind_some]
        by_cases hv : v3 = true
        · rw [if_pos hv]
          simp only [e4, Option.bind_some]; exact next _ _ _ c4
        · rw [if_neg hv]; exact next _ _ _ c3
    · obtain ⟨v, i1, s1, e1, _, _, c1⟩ := l1Below_ex c i s hc 4 (by omega) (by omega)
      rw [if_neg (by omega), e1, Option.bind_some]
      by_cases h0 : v = 0
      · obtain ⟨m', e, hl⟩ := drawMem_l1 c i1 s1 [⟨1, 1, 0, 0, 1⟩, ⟨6, 2, 0, 1, 20⟩, ⟨10, 3, 2, 1, 0⟩, ⟨8, 0, 0, 0, 1⟩] rfl k 0 m (by omega) (by omega) (by omega)
        rw [if_pos h0]; exact ⟨_, _, _, e, hl, c1⟩
      · rw [if_neg h0]
        by_cases h1 : v = 1
        · obtain ⟨m', e, hl⟩ := drawMem_l2 c i1 s1 [⟨4, 1, 0, 0, 8⟩, ⟨3, 1, 1, 0, 1⟩, ⟨5, 0, 0, 1, 8⟩, ⟨8, 0, 0, 0, 8⟩] rfl k 0 m (by omega) (by omega) (by omega)
          rw [if_pos h1]; exact ⟨_, _, _, e, hl, c1⟩
        · rw [if_neg h1]; exact ⟨_, _, _, rfl, by omega, c1⟩
theorem drawMem_ex (c : List Int) (i s : Int) (h : curOk c i) (k : Nat) (hk : 40 < k) : ∃ m i' s', spec_l9DrawMem.f k c i s = some (m, i', s') ∧ m.length = 24 ∧ curOk c i' :=
  drawMem_l0 c k 0 [] i s h rfl (by omega) (by omega)
theorem implAddress_eq (n : Int) : impl_address.f n = some (n % 24) := by
  unfold impl_address.f
  have b := tmod_bd n 24 (by omega)
  rw [wrap_small (by omega) (by omega), tmod_up n 24 (by omega) (by omega)]
theorem implWrapped_eq (n : Int) : impl_wrapped.f n = some (n % 65536) := by
  unfold impl_wrapped.f
  have b := tmod_bd n 65536 (by omega)
  rw [wrap_small (x := Int.tmod n 65536 + 65535) (by omega) (by omega), wrap_small (by omega) (by omega), show Int.tmod n 65536 + 65535 + 1 = Int.tmod n 65536 + 65536 by omega, tmod_up n 65536 (by omega) (by omega)]
/-- What an Ins does with the registers, the place, and what is put. -/
def opV (r : List Int) (pc st : Int) (o i a b n got : Int) : List Int × Int × Int × Int :=
  if o = 1 then (r.set i.toNat n, (pc + 1) % 24, st, -1)
  else if o = 2 then (r.set i.toNat ((rd r a + rd r b) % 65536), (pc + 1) % 24, st, -1)
  else if o = 10 then (r.set i.toNat ((rd r a - rd r b) % 65536), (pc + 1) % 24, st, -1)
  else if o = 3 then (r.set i.toNat ((rd r a + n) % 65536), (pc + 1) % 24, st, -1)
  else if o = 4 then (r.set i.toNat got, (pc + 1) % 24, st, -1)
  else if o = 5 then (r, (pc + 1) % 24, st, rd r b)
  else if o = 6 then (r.set i.toNat got, (pc + 1) % 24, st, (got + rd r b) % 65536)
  else if o = 7 then (if rd r a = 0 then (r, n % 24, st, -1) else (r, (pc + 1) % 24, st, -1))
  else if o = 8 then (r, n % 24, st, -1)
  else if o = 9 then (r, pc, 1, -1)
  else (r, (pc + 1) % 24, st, -1)
def workV (r : List Int) (pc st : Int) (o i a b n got : Int) : List Int × Int × Int × Int :=
  if hartB r pc st = true ∧ st = 0 ∧ (0 ≤ got ∧ got ≤ 65535) then (if insOkB o i a b n = true then opV r pc st o i a b n got else (r, pc, 2, -1)) else (r, pc, st, -1)
theorem hartB_parts {r : List Int} {p s : Int} (h : hartB r p s = true) : r.length = 4 ∧ (∀ x, x ∈ r → 0 ≤ x ∧ x ≤ 65535) ∧ (0 ≤ p ∧ p ≤ 23) ∧ (0 ≤ s ∧ s ≤ 2) := by
  have l := hartB_len h
  unfold hartB at h; rw [Bool.and_eq_true, Bool.and_eq_true] at h
  exact ⟨l, fun x hx => wordsB_mem h.1 x hx, of_decide_eq_true h.2.1, of_decide_eq_true h.2.2⟩
theorem rd_word {r : List Int} (hw : ∀ x, x ∈ r → 0 ≤ x ∧ x ≤ 65535) (i : Int) : 0 ≤ rd r i ∧ rd r i ≤ 65535 := by
  unfold rd
  rw [List.getD_eq_getElem?_getD]
  cases h : r[i.toNat]? with
  | none => simp
  | some x => exact hw x (List.mem_of_getElem? h)
theorem implWork_j2 (k : Nat) (r : List Int) (pc st o i a b n got : Int) (hr : r.length = 4) (hw : ∀ x, x ∈ r → 0 ≤ x ∧ x ≤ 65535) (hg : 0 ≤ got ∧ got ≤ 65535) (hi : 0 ≤ i ∧ i ≤ 3) (hn : 0 ≤ n ∧ n ≤ 63) :
    impl_Work.j2 (k + 2) got (rd r a) (rd r b) (-1) ((pc + 1) % 24) o r pc st o i a b n = some (opV r pc st o i a b n got) := by
  have wa := rd_word hw a
  have wb := rd_word hw b
  rw [impl_Work.j2]
  unfold opV
  rw [wrap_small (x := rd r a + rd r b) (by omega) (by omega), wrap_small (x := rd r a - rd r b) (by omega) (by omega), wrap_small (x := rd r a + n) (by omega) (by omega), wrap_small (x := got + rd r b) (by omega) (by omega)]
  simp only [implWrapped_eq, implAddress_eq, Option.bind_some]
  have h1 : i < (r.length : Int) := by omega
  simp only [if_pos hi.1, if_pos h1]
  by_cases c1 : o = 1
  · rw [if_pos c1, if_pos c1]
    all_goals (try rw [impl_Work.j3])
  rw [if_neg c1, if_neg c1]
  by_cases c2 : o = 2
  · rw [if_pos c2, if_pos c2]
    all_goals (try rw [impl_Work.j3])
  rw [if_neg c2, if_neg c2]
  by_cases c3 : o = 10
  · rw [if_pos c3, if_pos c3]
    all_goals (try rw [impl_Work.j3])
  rw [if_neg c3, if_neg c3]
  by_cases c4 : o = 3
  · rw [if_pos c4, if_pos c4]
    all_goals (try rw [impl_Work.j3])
  rw [if_neg c4, if_neg c4]
  by_cases c5 : o = 4
  · rw [if_pos c5, if_pos c5]
    all_goals (try rw [impl_Work.j3])
  rw [if_neg c5, if_neg c5]
  by_cases c6 : o = 5
  · rw [if_pos c6, if_pos c6]
    all_goals (try rw [impl_Work.j3])
  rw [if_neg c6, if_neg c6]
  by_cases c7 : o = 6
  · rw [if_pos c7, if_pos c7]
    all_goals (try rw [impl_Work.j3])
  rw [if_neg c7, if_neg c7]
  by_cases c8 : o = 7
  · rw [if_pos c8, if_pos c8]
    by_cases c : rd r a = 0
    · rw [if_pos c, if_pos c]
      all_goals (try rw [impl_Work.j3])
    · rw [if_neg c, if_neg c]
      all_goals (try rw [impl_Work.j3])
  rw [if_neg c8, if_neg c8]
  by_cases c9 : o = 8
  · rw [if_pos c9, if_pos c9]
    all_goals (try rw [impl_Work.j3])
  rw [if_neg c9, if_neg c9]
  by_cases c10 : o = 9
  · rw [if_pos c10, if_pos c10]
    all_goals (try rw [impl_Work.j3])
  rw [if_neg c10, if_neg c10]
  all_goals (try rw [impl_Work.j3])
theorem implWork_eq (r : List Int) (pc st o i a b n got : Int) (hl : r.length ≤ 2097152) (k : Nat) (hk : r.length + 10 < k) : impl_Work.f k r pc st o i a b n got = some (workV r pc st o i a b n got) := by
  obtain ⟨k, rfl⟩ : ∃ m, k = m + 4 := ⟨k - 4, by omega⟩
  unfold impl_Work.f impl_copyHart.f slices_Clone_int_int.f workV
  rw [if_pos (by omega), Option.bind_some, Option.bind_some]
  simp only [implHartOk_eq r pc st (by omega) (k + 4) (by omega), Option.bind_some]
  have jt : impl_Work.j0 (k + 4) got true r pc st o i a b n = some (r, pc, st, -1) := by rw [impl_Work.j0, if_pos rfl]
  by_cases h : hartB r pc st = true
  · obtain ⟨p1, p2, p3, p4⟩ := hartB_parts h
    rw [if_pos h]
    by_cases hs : st = 0
    · rw [if_pos hs, isWord_eq, Option.bind_some]
      by_cases hg : 0 ≤ got ∧ got ≤ 65535
      · rw [if_pos ⟨h, hs, hg⟩, decide_eq_true hg, Bool.not_true, impl_Work.j0, if_neg (by simp)]
        unfold impl_InsOk.f
        rw [Option.bind_some]
        by_cases hi : insOkB o i a b n = true
        · obtain ⟨b0, b0', b1, b1', b2, b2', b3, b3', b4, b4'⟩ := insOkB_bounds hi
          rw [if_pos hi, hi, Bool.not_true, impl_Work.j1, if_neg (by simp), if_pos b2, if_pos (by omega), if_pos b3, if_pos (by omega), implAddress_eq, Option.bind_some, wrap_small (x := pc + 1) (by omega) (by omega)]
          exact implWork_j2 k r pc st o i a b n got p1 p2 hg ⟨b1, b1'⟩ ⟨b4, b4'⟩
        · have hi' : insOkB o i a b n = false := by simpa using hi
          rw [if_neg hi, hi', Bool.not_false, impl_Work.j1, if_pos rfl]
      · rw [if_neg (fun c => hg c.2.2), decide_eq_false hg, Bool.not_false, jt]
    · rw [if_neg hs, jt, if_neg (fun c => hs c.2.1)]
  · rw [if_neg h, jt, if_neg (fun c => h c.1)]
/-- What a word says. -/
def insOf (w : Int) : Int × Int × Int × Int × Int := (w % 16, w / 16 % 4, w / 64 % 4, w / 256 % 4, w / 1024)
def decodeB (w : Int) : Bool := decide (0 ≤ w ∧ w ≤ 65535) && insOkB (w % 16) (w / 16 % 4) (w / 64 % 4) (w / 256 % 4) (w / 1024)
def decodeV (w : Int) : Int × Int × Int × Int × Int × Bool := if decodeB w = true then (w % 16, w / 16 % 4, w / 64 % 4, w / 256 % 4, w / 1024, true) else (0, 0, 0, 0, 0, false)
theorem implDecode_eq (w : Int) : impl_Decode.f w = some (decodeV w) := by
  unfold impl_Decode.f decodeV decodeB impl_InsOk.f
  rw [isWord_eq, Option.bind_some]
  by_cases h : 0 ≤ w ∧ w ≤ 65535
  · rw [decide_eq_true h, if_pos rfl, Bool.true_and]
    have e1 : Int.tmod w 16 = w % 16 := tmod_pos _ _ h.1
    have e2 : Int.tmod (wrap64 (Int.tdiv w 16)) 4 = w / 16 % 4 := by rw [tdiv_pos _ _ h.1, wrap_small (by omega) (by omega), tmod_pos _ _ (by omega)]
    have e3 : Int.tmod (wrap64 (Int.tdiv w 64)) 4 = w / 64 % 4 := by rw [tdiv_pos _ _ h.1, wrap_small (by omega) (by omega), tmod_pos _ _ (by omega)]
    have e4 : Int.tmod (wrap64 (Int.tdiv w 256)) 4 = w / 256 % 4 := by rw [tdiv_pos _ _ h.1, wrap_small (by omega) (by omega), tmod_pos _ _ (by omega)]
    have e5 : wrap64 (Int.tdiv w 1024) = w / 1024 := by rw [tdiv_pos _ _ h.1, wrap_small (by omega) (by omega)]
    rw [e1, e2, e3, e4, e5, Option.bind_some]
    by_cases c : insOkB (w % 16) (w / 16 % 4) (w / 64 % 4) (w / 256 % 4) (w / 1024) = true
    · rw [if_pos c, if_pos c]
    · rw [if_neg c, if_neg c]
  · rw [decide_eq_false h, if_neg (by simp), Bool.false_and, if_neg (by simp)]
/-- Which cell an Ins goes to; -1. -/
def targetV (o i a b n : Int) (r : List Int) : Int := if insOkB o i a b n = true ∧ (o = 4 ∨ o = 5 ∨ o = 6) ∧ r.length = 4 then wrap64 (rd r a + n) % 24 else -1
theorem implTarget_eq (o i a b n : Int) (r : List Int) : impl_Target.f o i a b n r = some (targetV o i a b n r) := by
  unfold impl_Target.f targetV impl_InsOk.f impl_aims.f
  rw [Option.bind_some]
  by_cases h : insOkB o i a b n = true
  · have hb := insOkB_bounds h
    rw [if_pos h]
    have ha : (if o = 4 then some true else if o = 5 then some true else some (o == 6)) = some (decide (o = 4 ∨ o = 5 ∨ o = 6)) := by
      by_cases c4 : o = 4
      · rw [if_pos c4, decide_eq_true (.inl c4)]
      · rw [if_neg c4]
        by_cases c5 : o = 5
        · rw [if_pos c5, decide_eq_true (.inr (.inl c5))]
        · rw [if_neg c5]; congr 1; rw [Bool.eq_iff_iff]; simp [c4, c5]
    rw [ha, Option.bind_some]
    by_cases c : o = 4 ∨ o = 5 ∨ o = 6
    · rw [decide_eq_true c, if_pos rfl]
      by_cases hl : r.length = 4
      · rw [if_pos (by omega), if_pos (by omega), if_pos (by omega), implAddress_eq, Option.bind_some, if_pos ⟨h, c, hl⟩]
      · rw [if_neg (by omega), if_neg (fun x => hl x.2.2)]
    · rw [decide_eq_false c, if_neg (by simp), if_neg (fun x => c x.2.1)]
  · rw [if_neg h, if_neg (fun x => h x.1)]
abbrev Hh := S29
def hB (h : Hh) : Bool := hartB h.f0 h.f1 h.f2
/-- One step of a hart that goes, in a memory that is right. -/
def gotV (m : List Int) (h : Hh) : Int := if 0 ≤ targetV (decodeV (rd m h.f1)).1 (decodeV (rd m h.f1)).2.1 (decodeV (rd m h.f1)).2.2.1 (decodeV (rd m h.f1)).2.2.2.1 (decodeV (rd m h.f1)).2.2.2.2.1 h.f0 then rd m (targetV (decodeV (rd m h.f1)).1 (decodeV (rd m h.f1)).2.1 (decodeV (rd m h.f1)).2.2.1 (decodeV (rd m h.f1)).2.2.2.1 (decodeV (rd m h.f1)).2.2.2.2.1 h.f0) else 0
def tgtV (m : List Int) (h : Hh) : Int := targetV (decodeV (rd m h.f1)).1 (decodeV (rd m h.f1)).2.1 (decodeV (rd m h.f1)).2.2.1 (decodeV (rd m h.f1)).2.2.2.1 (decodeV (rd m h.f1)).2.2.2.2.1 h.f0
def wkV (m : List Int) (h : Hh) : List Int × Int × Int × Int := workV h.f0 h.f1 h.f2 (decodeV (rd m h.f1)).1 (decodeV (rd m h.f1)).2.1 (decodeV (rd m h.f1)).2.2.1 (decodeV (rd m h.f1)).2.2.2.1 (decodeV (rd m h.f1)).2.2.2.2.1 (gotV m h)
def stepV (m : List Int) (h : Hh) : List Int × Hh := (if 0 ≤ (wkV m h).2.2.2 then m.set (tgtV m h).toNat (wkV m h).2.2.2 else m, ⟨(wkV m h).1, (wkV m h).2.1, (wkV m h).2.2.1⟩)
theorem tgt_range (o i a b n : Int) (r : List Int) : targetV o i a b n r = -1 ∨ 0 ≤ targetV o i a b n r ∧ targetV o i a b n r ≤ 23 := by
  unfold targetV
  by_cases h : insOkB o i a b n = true ∧ (o = 4 ∨ o = 5 ∨ o = 6) ∧ r.length = 4
  · rw [if_pos h]; right; omega
  · rw [if_neg h]; left; rfl
/-- What puts has a target. -/
theorem put_tgt {r : List Int} {pc st o i a b n got : Int} (h : 0 ≤ (workV r pc st o i a b n got).2.2.2) : 0 ≤ targetV o i a b n r := by
  unfold workV at h
  by_cases c : hartB r pc st = true ∧ st = 0 ∧ (0 ≤ got ∧ got ≤ 65535)
  · rw [if_pos c] at h
    by_cases hi : insOkB o i a b n = true
    · rw [if_pos hi] at h
      have hl := hartB_len c.1
      unfold targetV
      by_cases c5 : o = 5
      · rw [if_pos ⟨hi, .inr (.inl c5), hl⟩]; omega
      · by_cases c6 : o = 6
        · rw [if_pos ⟨hi, .inr (.inr c6), hl⟩]; omega
        · exfalso
          unfold opV at h
          rw [if_neg c5, if_neg c6] at h
          revert h
          split
          · simp
          split
          · simp
          split
          · simp
          split
          · simp
          split
          · simp
          split
          · split <;> simp
          split
          · simp
          split <;> simp
    · rw [if_neg hi] at h; simp at h
  · rw [if_neg c] at h; simp at h
theorem implStep_eq (m : List Int) (h : Hh) (hm : m.length = 24) (hh : hB h = true) (k : Nat) (hk : 20 < k) : impl_step.f k m h.f0 h.f1 h.f2 = some ((stepV m h).2.f0, (stepV m h).2.f1, (stepV m h).2.f2, (stepV m h).1) := by
  obtain ⟨p1, p2, p3, p4⟩ := hartB_parts hh
  unfold impl_step.f stepV
  rw [if_pos p3.1, if_pos (by omega), implDecode_eq, Option.bind_some]
  simp only [implTarget_eq, Option.bind_some]
  rcases tgt_range (decodeV (rd m h.f1)).1 (decodeV (rd m h.f1)).2.1 (decodeV (rd m h.f1)).2.2.1 (decodeV (rd m h.f1)).2.2.2.1 (decodeV (rd m h.f1)).2.2.2.2.1 h.f0 with t | t
  · rw [if_neg (by omega), implWork_eq _ _ _ _ _ _ _ _ _ (by omega) k (by omega), Option.bind_some]
    have e : gotV m h = 0 := by unfold gotV; rw [if_neg (by omega)]
    unfold wkV; rw [e]
    by_cases c : 0 ≤ (workV h.f0 h.f1 h.f2 (decodeV (rd m h.f1)).1 (decodeV (rd m h.f1)).2.1 (decodeV (rd m h.f1)).2.2.1 (decodeV (rd m h.f1)).2.2.2.1 (decodeV (rd m h.f1)).2.2.2.2.1 0).2.2.2
    · have := put_tgt c; omega
    · rw [if_neg c, if_neg c]
  · have e : gotV m h = rd m (tgtV m h) := by unfold gotV tgtV; rw [if_pos t.1]
    rw [if_pos t.1, if_pos t.1, if_pos (by omega), implWork_eq _ _ _ _ _ _ _ _ _ (by omega) k (by omega), Option.bind_some]
    unfold wkV; rw [e]; unfold tgtV
    by_cases c : 0 ≤ (workV h.f0 h.f1 h.f2 (decodeV (rd m h.f1)).1 (decodeV (rd m h.f1)).2.1 (decodeV (rd m h.f1)).2.2.1 (decodeV (rd m h.f1)).2.2.2.1 (decodeV (rd m h.f1)).2.2.2.2.1 (rd m (targetV (decodeV (rd m h.f1)).1 (decodeV (rd m h.f1)).2.1 (decodeV (rd m h.f1)).2.2.1 (decodeV (rd m h.f1)).2.2.2.1 (decodeV (rd m h.f1)).2.2.2.2.1 h.f0))).2.2.2
    · rw [if_pos c, if_pos c]
    · rw [if_neg c, if_neg c]
theorem rdH (l : List Hh) (i : Nat) (h : i < l.length) : rd_T29 l (i : Int) = l[i] := by
  unfold rd_T29; simp [List.getD, h]
def goB (h : Hh) : Bool := hB h && (h.f2 == 0)
theorem implGoes_eq (h : Hh) (hl : h.f0.length ≤ 2097152) (k : Nat) (hk : h.f0.length < k) : impl_goes.f k h.f0 h.f1 h.f2 = some (goB h) := by
  unfold impl_goes.f goB hB
  rw [implHartOk_eq _ _ _ hl k hk, Option.bind_some]
  cases hartB h.f0 h.f1 h.f2 <;> rfl
theorem sort1 (a : Int) : slices_Sort_int_int.f [a] = some [a] := by
  unfold slices_Sort_int_int.f; rw [if_pos (by simp)]; simp
theorem sort2 (a b : Int) : slices_Sort_int_int.f [a, b] = some (if a ≤ b then [a, b] else [b, a]) := by
  unfold slices_Sort_int_int.f; rw [if_pos (by simp)]
  congr 1
  have e : List.mergeSort [a, b] (fun x y => decide (x ≤ y)) = List.merge [a] [b] (fun x y => decide (x ≤ y)) := by
    rw [List.mergeSort]; simp [List.MergeSort.Internal.splitInTwo]
  rw [e]
  by_cases h : a ≤ b
  · simp [List.merge, h]
  · simp [List.merge, h]
theorem compact1 (a : Int) : slices_Compact_int_int.f [a] = some [a] := by
  unfold slices_Compact_int_int.f; rw [if_pos (by simp)]; rfl
theorem compact2 (a b : Int) : slices_Compact_int_int.f [a, b] = some (if a = b then [a] else [a, b]) := by
  unfold slices_Compact_int_int.f; rw [if_pos (by simp)]
  congr 1
  by_cases h : a = b
  · subst h; simp [Go.Lib.compact, Go.Lib.compactUpTo, Go.Lib.keeps, show List.range 2 = [0, 1] from rfl, List.filter]
  · simp [Go.Lib.compact, Go.Lib.compactUpTo, Go.Lib.keeps, h, show List.range 2 = [0, 1] from rfl, List.filter, show (decide (b = a)) = false from decide_eq_false (fun q => h q.symm)]
theorem addr_eq (x : Int) : impl_address.f x = some (x % 24) := by
  unfold impl_address.f
  have hb := tmod_bd x 24 (by omega)
  rw [wrap_small (by omega) (by omega), tmod_up x 24 (by omega) (by omega)]
def nextOf (pc : Int) (d : Int × Int × Int × Int × Int × Bool) : List Int := if d.2.2.2.2.2 = true ∧ d.1 ≠ 9 then (if d.1 = 8 then [d.2.2.2.2.1 % 24] else if d.1 = 7 then (if d.2.2.2.2.1 % 24 = (pc + 1) % 24 then [(pc + 1) % 24] else if d.2.2.2.2.1 % 24 < (pc + 1) % 24 then [d.2.2.2.2.1 % 24, (pc + 1) % 24] else [(pc + 1) % 24, d.2.2.2.2.1 % 24]) else [(pc + 1) % 24]) else []
def nx (m : List Int) (pc : Int) : List Int := if wordsB m 24 = true ∧ (0 ≤ pc ∧ pc ≤ 23) then nextOf pc ((impl_Decode.f (rd m pc)).getD (0, 0, 0, 0, 0, false)) else []
theorem nx_cell (m : List Int) (pc : Int) : ∀ y ∈ nx m pc, 0 ≤ y ∧ y < 24 := by
  unfold nx nextOf
  intro y hy
  repeat' split at hy
  all_goals (simp only [List.mem_cons, List.mem_nil_iff, or_false, List.not_mem_nil] at hy)
  all_goals (first | (subst hy; omega) | (rcases hy with rfl | rfl <;> omega))
theorem nx_len (m : List Int) (pc : Int) : (nx m pc).length ≤ 2 := by
  unfold nx nextOf
  repeat' split
  all_goals simp
theorem implNext_eq (m : List Int) (pc : Int) (hl : m.length ≤ 1048576) (k : Nat) (hk : 2000000 < k) : impl_NextOf.f k m pc = some (nx m pc) := by
  obtain ⟨k, rfl⟩ : ∃ q, k = q + 3 := ⟨k - 3, by omega⟩
  unfold impl_NextOf.f
  rw [memOk_eq m (by omega) _ (by omega), Option.bind_some]
  by_cases hw : wordsB m 24 = true
  · rw [if_pos hw, isCell_eq, Option.bind_some]
    by_cases hc : 0 ≤ pc ∧ pc ≤ 23
    · have l24 := wordsB_24 hw
      obtain ⟨d, hd⟩ : ∃ d, impl_Decode.f (rd m pc) = some d := by
        unfold impl_Decode.f
        rw [isWord_eq, Option.bind_some]
        split
        · unfold impl_InsOk.f
          rw [Option.bind_some]
          split
          · exact ⟨_, rfl⟩
          · exact ⟨_, rfl⟩
        · exact ⟨_, rfl⟩
      obtain ⟨d0, d1, d2, d3, d4, d5⟩ := d
      rw [decide_eq_true hc, Bool.not_true]
      have ex : nx m pc = nextOf pc (d0, d1, d2, d3, d4, d5) := by unfold nx; rw [if_pos ⟨hw, hc⟩, hd]; rfl
      rw [ex]
      rw [impl_NextOf.j0, if_neg (by simp), if_pos hc.1, if_pos (by omega), hd, Option.bind_some]
      unfold nextOf
      dsimp only
      by_cases h5 : d5 = true
      · rw [if_pos h5, impl_NextOf.j1]
        by_cases h9 : d0 = 9
        · rw [if_pos (by simp [h9]), if_neg (fun q => q.2 h9)]
        · rw [if_neg (by simp [h9]), if_pos (show d5 = true ∧ d0 ≠ 9 from ⟨h5, h9⟩), wrap_small (x := pc + 1) (by omega) (by omega), addr_eq, addr_eq]
          simp only [Option.bind_some]
          by_cases h8 : d0 = 8
          · rw [if_pos h8, if_pos h8]
          · rw [if_neg h8, if_neg h8]
            by_cases h7 : d0 = 7
            · rw [if_pos h7, if_pos h7, if_pos (by simp), List.singleton_append, sort2, Option.bind_some]
              by_cases c : (pc + 1) % 24 ≤ d4 % 24
              · rw [if_pos c, compact2, Option.bind_some]
                by_cases e : (pc + 1) % 24 = d4 % 24
                · rw [if_pos e, if_pos e.symm]
                · rw [if_neg e, if_neg (fun q => e q.symm), if_neg (by omega)]
              · rw [if_neg c, compact2, Option.bind_some, if_neg (by omega), if_neg (by omega), if_pos (by omega)]
            · rw [if_neg h7, if_neg h7, sort1, Option.bind_some, compact1]; rfl
      · rw [if_neg h5, if_neg (fun q => h5 q.1), impl_NextOf.j1, if_pos rfl]
    · rw [decide_eq_false hc, Bool.not_false, impl_NextOf.j0, if_pos rfl]
      have ex : nx m pc = [] := by unfold nx; rw [if_neg (fun q => hc q.2)]
      rw [ex]
  · rw [if_neg hw, impl_NextOf.j0, if_pos rfl]
    have ex : nx m pc = [] := by unfold nx; rw [if_neg (fun q => hw q.1)]
    rw [ex]
theorem nodup_bound : ∀ (n : Nat) (l : List Int), l.Nodup → (∀ x ∈ l, 0 ≤ x ∧ x < n) → l.length ≤ n
  | 0, l, _, h => by
    match l with
    | [] => simp
    | a :: _ => have := h a (by simp); omega
  | n + 1, l, d, h => by
    have ih := nodup_bound n (l.erase (n : Int)) (d.erase _) (fun x hx => by
      have := (d.mem_erase_iff).1 hx
      have h2 := h x this.2
      omega)
    by_cases c : (n : Int) ∈ l
    · rw [List.length_erase_of_mem c] at ih; omega
    · rw [List.erase_of_not_mem c] at ih; omega
theorem same_sorted {l1 l2 : List Int} (d1 : l1.Nodup) (d2 : l2.Nodup) (h : ∀ x, x ∈ l1 ↔ x ∈ l2) (s2 : l2.Pairwise fun x y => x ≤ y) : l1.mergeSort (fun x y => decide (x ≤ y)) = l2 := by
  have p1 := List.mergeSort_perm l1 (fun x y => decide (x ≤ y))
  have p2 : l1.Perm l2 := (List.perm_ext_iff_of_nodup d1 d2).2 h
  have s1 := List.pairwise_mergeSort (le := fun (x y : Int) => decide (x ≤ y)) (by intro a b c; simp; omega) (by intro a b; simp; omega) l1
  exact (p1.trans p2).eq_of_pairwise (le := fun x y => x ≤ y) (fun a b _ _ h1 h2 => by omega) (s1.imp (fun h => by simpa using h)) s2
inductive Rc (nx : Int → List Int) (S : List Int) : Int → Prop
  | here {x} : x ∈ S → Rc nx S x
  | step {x y} : Rc nx S x → y ∈ nx x → Rc nx S y
theorem Rc.closed {nx : Int → List Int} {S : List Int} {P : Int → Prop} (h0 : ∀ x ∈ S, P x) (h1 : ∀ x, P x → ∀ y ∈ nx x, P y) : ∀ x, Rc nx S x → P x := fun x h => by
  induction h with
  | here h => exact h0 _ h
  | step _ h ih => exact h1 _ ih _ h
def addOne (o : List Int) (n : Int) : List Int := if n ∈ o then o else o ++ [n]
/-- What is gathered: own cells, no two alike, all come to. -/
structure Ga (nx : Int → List Int) (S : List Int) (o : List Int) : Prop where
  nd : o.Nodup
  cell : ∀ x ∈ o, 0 ≤ x ∧ x < 24
  rc : ∀ x ∈ o, Rc nx S x
theorem Ga.one {nx S o n} (h : Ga nx S o) (hc : 0 ≤ n ∧ n < 24) (hr : Rc nx S n) : Ga nx S (addOne o n) ∧ n ∈ addOne o n ∧ o <+: addOne o n := by
  unfold addOne
  by_cases c : n ∈ o
  · rw [if_pos c]; exact ⟨h, c, List.prefix_refl _⟩
  · rw [if_neg c]
    refine ⟨⟨List.nodup_append.2 ⟨h.nd, by simp, fun a ha b hb q => ?_⟩, fun x hx => ?_, fun x hx => ?_⟩, by simp, List.prefix_append _ _⟩
    · rw [List.mem_singleton] at hb; subst hb; subst q; exact c ha
    · rcases List.mem_append.1 hx with h1 | h1
      · exact h.cell x h1
      · rw [List.mem_singleton] at h1; subst h1; exact hc
    · rcases List.mem_append.1 hx with h1 | h1
      · exact h.rc x h1
      · rw [List.mem_singleton] at h1; subst h1; exact hr
theorem Ga.all {nx S} : ∀ (l o : List Int), Ga nx S o → (∀ n ∈ l, 0 ≤ n ∧ n < 24) → (∀ n ∈ l, Rc nx S n) → Ga nx S (l.foldl addOne o) ∧ (∀ n ∈ l, n ∈ l.foldl addOne o) ∧ o <+: l.foldl addOne o
  | [], o, h, _, _ => ⟨h, by simp, List.prefix_refl _⟩
  | n :: l, o, h, hc, hr => by
    obtain ⟨h1, h2, h3⟩ := h.one (hc n (by simp)) (hr n (by simp))
    obtain ⟨h4, h5, h6⟩ := Ga.all l (addOne o n) h1 (fun x hx => hc x (by simp [hx])) (fun x hx => hr x (by simp [hx]))
    rw [List.foldl_cons]
    refine ⟨h4, fun x hx => ?_, h3.trans h6⟩
    rcases List.mem_cons.1 hx with rfl | h7
    · exact h6.subset h2
    · exact h5 x h7
/-- What is marked, and what is still to do. -/
structure Mk (nx : Int → List Int) (S : List Int) (seen : List Bool) (todo : List Int) : Prop where
  len : seen.length = 24
  cell : ∀ x ∈ todo, 0 ≤ x ∧ x < 24
  rct : ∀ x ∈ todo, Rc nx S x
  rcs : ∀ i : Nat, seen.getD i false = true → Rc nx S i
  src : ∀ x ∈ S, x ∈ todo ∨ seen.getD x.toNat false = true
  cl : ∀ i : Nat, seen.getD i false = true → ∀ y ∈ nx i, y ∈ todo ∨ seen.getD y.toNat false = true
theorem Mk.skip {nx S seen x todo} (h : Mk nx S seen (x :: todo)) (hs : seen.getD x.toNat false = true) : Mk nx S seen todo :=
  ⟨h.len, fun y hy => h.cell y (by simp [hy]), fun y hy => h.rct y (by simp [hy]), h.rcs, fun y hy => (h.src y hy).elim (fun q => (List.mem_cons.1 q).elim (fun q => by subst q; exact .inr hs) .inl) .inr, fun i hi y hy => (h.cl i hi y hy).elim (fun q => (List.mem_cons.1 q).elim (fun q => by subst q; exact .inr hs) .inl) .inr⟩
theorem getD_set_self {l : List Bool} {i : Nat} {b : Bool} (h : i < l.length) : (l.set i b).getD i false = b := by simp [List.getD, h]
theorem getD_set_ne {l : List Bool} {i j : Nat} {b : Bool} (h : i ≠ j) : (l.set i b).getD j false = l.getD j false := by simp [List.getD, h]
theorem Mk.mark {nx S seen x todo} (h : Mk nx S seen (x :: todo)) (hc : ∀ y ∈ nx x, 0 ≤ y ∧ y < 24) : Mk nx S (seen.set x.toNat true) (todo ++ nx x) := by
  have hx := h.cell x (by simp)
  have hl := h.len
  have hr := h.rct x (by simp)
  have hin : ∀ j : Nat, seen.getD j false = true → (seen.set x.toNat true).getD j false = true := fun j hj => by
    by_cases c : x.toNat = j
    · subst c; exact getD_set_self (by omega)
    · rw [getD_set_ne c]; exact hj
  have hout : ∀ j : Nat, (seen.set x.toNat true).getD j false = true → j = x.toNat ∨ seen.getD j false = true := fun j hj => by
    by_cases c : x.toNat = j
    · exact .inl c.symm
    · rw [getD_set_ne c] at hj; exact .inr hj
  have hmv : ∀ y, (y ∈ x :: todo ∨ seen.getD y.toNat false = true) → (y ∈ todo ++ nx x ∨ (seen.set x.toNat true).getD y.toNat false = true) := fun y hy => by
    rcases hy with hy | hy
    · rcases List.mem_cons.1 hy with rfl | hy
      · exact .inr (getD_set_self (by omega))
      · exact .inl (List.mem_append.2 (.inl hy))
    · exact .inr (hin _ hy)
  refine ⟨by rw [List.length_set, hl], fun y hy => ?_, fun y hy => ?_, fun i hi => ?_, fun y hy => hmv y (h.src y hy), fun i hi y hy => ?_⟩
  · rcases List.mem_append.1 hy with hy | hy
    · exact h.cell y (by simp [hy])
    · exact hc y hy
  · rcases List.mem_append.1 hy with hy | hy
    · exact h.rct y (by simp [hy])
    · exact hr.step hy
  · rcases hout i hi with hi | hi
    · subst hi; rw [Int.toNat_of_nonneg hx.1]; exact hr
    · exact h.rcs i hi
  · rcases hout i hi with hi | hi
    · subst hi; rw [Int.toNat_of_nonneg hx.1] at hy; exact .inl (List.mem_append.2 (.inr hy))
    · exact hmv y (h.cl i hi y hy)
theorem Mk.done {nx S seen} (h : Mk nx S seen []) (hS : ∀ x ∈ S, 0 ≤ x ∧ x < 24) (hn : ∀ x, 0 ≤ x ∧ x < 24 → ∀ y ∈ nx x, 0 ≤ y ∧ y < 24) (i : Nat) : seen.getD i false = true ↔ Rc nx S i := by
  refine ⟨h.rcs i, fun hr => ?_⟩
  have := (show ∀ x, Rc nx S x → 0 ≤ x ∧ x < 24 ∧ seen.getD x.toNat false = true from fun x hx => by
    induction hx with
    | here hx =>
      have h1 := hS _ hx
      rcases h.src _ hx with q | q
      · simp at q
      · exact ⟨h1.1, h1.2, q⟩
    | step _ hy ih =>
      have h1 := hn _ ⟨ih.1, ih.2.1⟩ _ hy
      rcases h.cl _ ih.2.2 _ (by rw [Int.toNat_of_nonneg ih.1]; exact hy) with q | q
      · simp at q
      · exact ⟨h1.1, h1.2, q⟩) i hr
  have := this.2.2
  rwa [Int.toNat_natCast] at this
theorem count_set {l : List Bool} : ∀ {i : Nat}, i < l.length → l.getD i false = false → (l.set i true).count false + 1 = l.count false := by
  induction l with
  | nil => intro i h; simp at h
  | cons a l ih =>
    intro i h hf
    cases i with
    | zero => simp at hf; subst hf; simp
    | succ i =>
      have := ih (i := i) (by simpa using h) (by simpa [List.getD] using hf)
      simp only [List.set_cons_succ, List.count_cons]
      omega
noncomputable def rcB (nx : Int → List Int) (S : List Int) (x : Int) : Bool := @decide (Rc nx S x) (Classical.propDecidable _)
theorem rcB_iff (nx : Int → List Int) (S : List Int) (x : Int) : rcB nx S x = true ↔ Rc nx S x := by unfold rcB; exact @decide_eq_true_iff _ (Classical.propDecidable _)
noncomputable def reachL (nx : Int → List Int) (S : List Int) : List Int := ((List.range 24).map fun (i : Nat) => (i : Int)).filter fun x => rcB nx S x
theorem reachL_mem (nx : Int → List Int) (S : List Int) (hS : ∀ x ∈ S, 0 ≤ x ∧ x < 24) (hn : ∀ x, ∀ y ∈ nx x, 0 ≤ y ∧ y < 24) (x : Int) : x ∈ reachL nx S ↔ Rc nx S x := by
  unfold reachL
  rw [List.mem_filter, rcB_iff]
  refine ⟨fun h => h.2, fun h => ⟨?_, h⟩⟩
  have hx : 0 ≤ x ∧ x < 24 := by
    cases h with
    | here h => exact hS _ h
    | step _ h => exact hn _ _ h
  exact List.mem_map.2 ⟨x.toNat, List.mem_range.2 (by omega), by omega⟩
theorem reachL_cell (nx : Int → List Int) (S : List Int) (x : Int) (h : x ∈ reachL nx S) : 0 ≤ x ∧ x < 24 := by
  unfold reachL at h
  obtain ⟨i, hi, rfl⟩ := List.mem_map.1 (List.mem_filter.1 h).1
  have := List.mem_range.1 hi
  omega
theorem reachL_len (nx : Int → List Int) (S : List Int) : (reachL nx S).length ≤ 24 := by
  unfold reachL
  exact Nat.le_trans (List.length_filter_le _ _) (by simp)
theorem reachL_nodup (nx : Int → List Int) (S : List Int) : (reachL nx S).Nodup ∧ (reachL nx S).Pairwise fun x y => x ≤ y := by
  have h : ((List.range 24).map fun (i : Nat) => (i : Int)).Pairwise fun x y => x < y := by
    rw [List.pairwise_map]
    exact List.pairwise_lt_range.imp (fun h => by omega)
  exact ⟨(h.imp (fun h => by omega : ∀ {a b : Int}, a < b → a ≠ b)).filter _, (h.imp (fun h => by omega : ∀ {a b : Int}, a < b → a ≤ b)).filter _⟩
/-- Where one comes to: of an own memory and cell all that is come to, else nothing. -/
noncomputable def reachOf (m : List Int) (from_ : Int) : List Int := if wordsB m 24 = true ∧ (0 ≤ from_ ∧ from_ ≤ 23) then reachL (nx m) [from_] else []
theorem reachOf_len (m : List Int) (x : Int) : (reachOf m x).length ≤ 24 := by
  unfold reachOf; split
  · exact reachL_len _ _
  · simp
theorem contains_eq (l : List Int) (a : Int) (hl : l.length ≤ 4194304) (k : Nat) (hk : l.length < k) : slices_Contains_int_int.f k l a = some (decide (a ∈ l)) := by
  unfold slices_Contains_int_int.f slices_Index_int_int.f
  obtain ⟨v, h1, h2⟩ := idx_any (n := l.length) (fun k i => slices_Index_int_int.l0 k l a (l.length : Int) (i : Int)) (fun i => decide (a = rd l (i : Int))) (fun k i hi hq => by
      have hq := of_decide_eq_false hq
      simp only [slices_Index_int_int.l0]
      rw [if_pos (by omega), if_pos (by omega), if_pos (by omega), if_neg hq, wrap_succ (by omega)]) (fun k i hi hq => by
      have hq := of_decide_eq_true hq
      simp only [slices_Index_int_int.l0]
      rw [if_pos (by omega), if_pos (by omega), if_pos (by omega), if_pos hq]) (fun k => by
      simp only [slices_Index_int_int.l0]
      rw [if_neg (by omega)]) (decide (a ∈ l)) (by
      rw [decide_eq_true_iff, List.mem_iff_getElem]
      refine ⟨fun ⟨j, hj, e⟩ => ⟨j, hj, ?_⟩, fun ⟨j, hj, e⟩ => ⟨j, hj, ?_⟩⟩
      · rw [decide_eq_true_iff, rd_nat l j hj, e]
      · rw [decide_eq_true_iff, rd_nat l j hj] at e; exact e.symm) k hk
  have h1' : slices_Index_int_int.l0 k l a (l.length : Int) 0 = some v := h1
  rw [h1', Option.bind_some, h2]
theorem add_loop (m : List Int) (i : Int) (t : List Int) : ∀ (n j : Nat) (o : List Int) (k : Nat), t.length = j + n → o.length + n ≤ 4194304 → t.length ≤ 4194304 → o.length + n < k → impl_ReachOf.l1 (k + n + 1) m o i t (t.length : Int) (j : Int) = impl_ReachOf.l0 k m ((t.drop j).foldl addOne o) (wrap64 (i + 1))
  | 0, j, o, k, ht, _, _, hk => by
    simp only [impl_ReachOf.l1]
    rw [if_neg (by omega), List.drop_of_length_le (by omega)]; rfl
  | n + 1, j, o, k, ht, ho, hb, hk => by
    have e := List.drop_eq_getElem_cons (l := t) (i := j) (by omega)
    rw [show k + (n + 1) + 1 = (k + n + 1) + 1 by omega]
    simp only [impl_ReachOf.l1]
    rw [if_pos (by omega), if_pos (by omega), if_pos (by omega), rd_nat t j (by omega), contains_eq _ _ (by omega) _ (by omega), Option.bind_some, e, List.foldl_cons, wrap_succ (by omega)]
    unfold addOne
    by_cases c : t[j] ∈ o
    · rw [if_pos (decide_eq_true c), if_pos c]
      exact add_loop m i t n (j + 1) o k (by omega) (by omega) hb (by omega)
    · rw [if_neg (by simpa using c), if_pos (by omega), if_neg c]
      exact add_loop m i t n (j + 1) (o ++ [t[j]]) k (by omega) (by rw [List.length_append, List.length_singleton]; omega) hb (by rw [List.length_append, List.length_singleton]; omega)
theorem reach_loop (m : List Int) (f : Int) (hm : m.length ≤ 1048576) : ∀ (n i : Nat) (o : List Int) (k : Nat), Ga (nx m) [f] o → f ∈ o → i ≤ o.length → (∀ j (h : j < o.length), j < i → ∀ y ∈ nx m o[j], y ∈ o) → 24 ≤ i + n → n ≤ 24 → 2000100 + 10 * n < k → impl_ReachOf.l0 k m o (i : Int) = some (reachL (nx m) [f])
  | n, i, o, k, hg, hf, hi, hc, hn, hn2, hk => by
    obtain ⟨k, rfl⟩ : ∃ q, k = q + 1 := ⟨k - 1, by omega⟩
    have hol := nodup_bound 24 o hg.nd hg.cell
    have hfc := hg.cell f hf
    by_cases h : i < o.length
    · have e := implNext_eq m o[i] hm k (by omega)
      have e2 := nx_len m o[i]
      obtain ⟨g1, g2, g3⟩ := hg.all (nx m o[i]) o (nx_cell m _) (fun y hy => (hg.rc _ (List.getElem_mem h)).step hy)
      match n, hn, hn2, hk with
      | 0, hn, _, _ => omega
      | n + 1, hn, hn2, hk =>
        simp only [impl_ReachOf.l0]
        rw [if_pos (by omega), if_pos (by omega), rd_nat o i h, e, Option.bind_some]
        have ha := add_loop m (i : Int) (nx m o[i]) (nx m o[i]).length 0 o (k - (nx m o[i]).length - 1) (by omega) (by omega) (by omega) (by omega)
        rw [show k - (nx m o[i]).length - 1 + (nx m o[i]).length + 1 = k by omega, List.drop_zero] at ha
        rw [show ((0 : Nat) : Int) = 0 from rfl] at ha
        rw [ha, wrap_succ (by omega)]
        refine reach_loop m f hm n (i + 1) _ _ g1 (g3.subset hf) (by have := g3.length_le; omega) (fun j hj hji y hy => ?_) (by omega) (by omega) (by omega)
        have hjo : j < o.length := by omega
        have ej : ((nx m o[i]).foldl addOne o)[j] = o[j] := (g3.getElem hjo).symm
        rw [ej] at hy
        by_cases c : j = i
        · subst c; exact g2 y hy
        · exact g3.subset (hc j hjo (by omega) y hy)
    · simp only [impl_ReachOf.l0]
      rw [if_neg (by omega)]
      unfold slices_Sort_int_int.f
      rw [if_pos (by omega), Option.bind_some]
      congr 1
      have hS : ∀ x ∈ [f], 0 ≤ x ∧ x < 24 := fun x hx => by rw [List.mem_singleton] at hx; subst hx; exact hfc
      refine same_sorted hg.nd (reachL_nodup _ _).1 (fun x => ?_) (reachL_nodup _ _).2
      rw [reachL_mem _ _ hS (nx_cell m)]
      refine ⟨hg.rc x, Rc.closed (P := fun x => x ∈ o) (fun y hy => by rw [List.mem_singleton] at hy; subst hy; exact hf) (fun y hy z hz => ?_) x⟩
      obtain ⟨j, hj, rfl⟩ := List.mem_iff_getElem.1 hy
      exact hc j hj (by omega) z hz
theorem implReach_eq (m : List Int) (x : Int) (hm : m.length ≤ 1048576) (k : Nat) (hk : 2200000 < k) : impl_ReachOf.f k m x = some (reachOf m x) := by
  obtain ⟨k, rfl⟩ : ∃ q, k = q + 1 := ⟨k - 1, by omega⟩
  unfold impl_ReachOf.f reachOf
  rw [Option.bind_some, memOk_eq m (by omega) _ (by omega), Option.bind_some]
  by_cases hw : wordsB m 24 = true
  · rw [if_pos hw, isCell_eq, Option.bind_some]
    by_cases hc : 0 ≤ x ∧ x ≤ 23
    · rw [decide_eq_true hc, Bool.not_true, impl_ReachOf.j0, if_neg (by simp), if_pos (by simp), List.nil_append, if_pos ⟨hw, hc⟩]
      exact reach_loop m x hm 24 0 [x] k ⟨by simp, by simp; omega, by intro y hy; rw [List.mem_singleton] at hy; subst hy; exact .here (by simp)⟩ (by simp) (by simp) (fun j _ hj => by omega) (by omega) (by omega) (by omega)
    · rw [decide_eq_false hc, Bool.not_false, impl_ReachOf.j0, if_pos rfl, if_neg (fun q => hc q.2)]
  · rw [if_neg hw, impl_ReachOf.j0, if_pos rfl, if_neg (fun q => hw q.1)]
theorem reachOf_cell (m : List Int) (x c : Int) (h : c ∈ reachOf m x) : wordsB m 24 = true ∧ 0 ≤ c ∧ c < 24 := by
  unfold reachOf at h
  split at h
  · rename_i g; exact ⟨g.1, reachL_cell _ _ _ h⟩
  · simp at h
theorem reachOf_mem (m : List Int) (x c : Int) (hw : wordsB m 24 = true) (hx : 0 ≤ x ∧ x < 24) : c ∈ reachOf m x ↔ Rc (nx m) [x] c := by
  unfold reachOf
  rw [if_pos ⟨hw, hx.1, by omega⟩]
  exact reachL_mem _ _ (fun y hy => by rw [List.mem_singleton] at hy; subst hy; exact hx) (nx_cell m) c
theorem rc_split (nx : Int → List Int) (S : List Int) (c : Int) : Rc nx S c ↔ ∃ n, n ∈ S ∧ Rc nx [n] c := by
  constructor
  · intro h
    induction h with
    | here h => exact ⟨_, h, .here (by simp)⟩
    | step _ hy ih => obtain ⟨n, hn, hr⟩ := ih; exact ⟨n, hn, hr.step hy⟩
  · rintro ⟨n, hn, h⟩
    induction h with
    | here h => rw [List.mem_singleton] at h; subst h; exact .here hn
    | step _ hy ih => exact ih.step hy
/-- A loop that looks for one that passes. -/
theorem any_loop (v : List Int) (q : Int → Bool) (L : Nat → Nat → Option Bool) (C : Nat) (hs : ∀ k i, C ≤ k → (h : i < v.length) → q v[i] = false → L (k + 1) i = L k (i + 1)) (hb : ∀ k i, C ≤ k → (h : i < v.length) → q v[i] = true → L (k + 1) i = some true) (he : ∀ k, L (k + 1) v.length = some false) (k : Nat) (hk : v.length + C < k) : L k 0 = some (v.any q) := by
  have g := for_find v.length (fun k i => L (k + C) i) (fun i => ∃ h : i < v.length, q v[i] = true) (fun _ => true) false (fun k i hi hq => by
      show L (k + 1 + C) i = _
      rw [show k + 1 + C = (k + C) + 1 by omega]
      exact hs _ _ (by omega) hi (by
        cases hh : q v[i] with
        | false => rfl
        | true => exact absurd ⟨hi, hh⟩ hq)) (fun k i hi hq => by
      show L (k + 1 + C) i = _
      rw [show k + 1 + C = (k + C) + 1 by omega]
      obtain ⟨h, hh⟩ := hq
      exact hb _ _ (by omega) h hh) (fun k => by
      show L (k + 1 + C) v.length = _
      rw [show k + 1 + C = (k + C) + 1 by omega]
      exact he _) (k - C) 0 (Nat.zero_le _) (by omega)
  rw [show k - C + C = k by omega] at g
  rcases g with ⟨j, _, h2, ⟨h, h3⟩, _, h5⟩ | ⟨h1, h2⟩
  · rw [h5, List.any_eq_true.2 ⟨_, List.getElem_mem h, h3⟩]
  · rw [h2]; congr 1; symm
    rw [List.any_eq_false]
    intro x hx hq
    obtain ⟨j, hj, rfl⟩ := List.mem_iff_getElem.1 hx
    exact h1 j (Nat.zero_le _) hj ⟨hj, hq⟩
theorem findJ_any (p : Int → Option Bool) (q : Int → Bool) : ∀ (l : List Int) (i : Nat), (∀ c ∈ l, p c = some (q c)) → ∃ v, findJ p l i = some v ∧ decide (v ≥ 0) = l.any q
  | [], i, _ => ⟨-1, rfl, rfl⟩
  | c :: r, i, h => by
    unfold findJ
    rw [h c (by simp), Option.bind_some, List.any_cons]
    cases hq : q c with
    | true => exact ⟨(i : Int), by rw [if_pos rfl], by rw [Bool.true_or]; exact decide_eq_true (by omega)⟩
    | false =>
      obtain ⟨v, h1, h2⟩ := findJ_any p q r (i + 1) (fun c hc => h c (by simp [hc]))
      exact ⟨v, by rw [if_neg (by simp)]; exact h1, by rw [h2, Bool.false_or]⟩
def wqB (m : List Int) (c : Int) : Bool := (decodeV (rd m c)).1 == 5 || (decodeV (rd m c)).1 == 6
theorem decodeV_bad (w : Int) (h : (decodeV w).2.2.2.2.2 = false) : (decodeV w).1 = 0 := by
  unfold decodeV at h ⊢
  split at h
  · simp at h
  · rename_i c; rw [if_neg c]
theorem implWrites_eq (m : List Int) (x : Int) (hm : m.length ≤ 1048576) (k : Nat) (hk : 2200000 < k) : impl_WritesFrom.f k m x = some ((reachOf m x).any (wqB m)) := by
  unfold impl_WritesFrom.f
  rw [implReach_eq m x hm k hk, Option.bind_some]
  obtain ⟨v, h1, h2⟩ := findJ_any (wrAt m) (wqB m) (reachOf m x) 0 (fun c hc => by
    obtain ⟨hw, h0, h1⟩ := reachOf_cell m x c hc
    have := wordsB_24 hw
    unfold wrAt wqB
    rw [if_pos ⟨h0, by omega⟩, implDecode_eq, Option.bind_some])
  rw [h1, Option.bind_some, h2]
theorem reachOf_closed (m : List Int) (x c y : Int) (h : c ∈ reachOf m x) (hy : y ∈ nx m c) : y ∈ reachOf m x := by
  have h' := h
  unfold reachOf at h'
  split at h'
  · rename_i g
    rw [reachOf_mem m x c g.1 ⟨g.2.1, by omega⟩] at h
    rw [reachOf_mem m x y g.1 ⟨g.2.1, by omega⟩]
    exact h.step hy
  · simp at h'
theorem reachOf_self (m : List Int) (x : Int) (h : reachOf m x ≠ []) : x ∈ reachOf m x := by
  by_cases g : wordsB m 24 = true ∧ (0 ≤ x ∧ x ≤ 23)
  · rw [reachOf_mem m x x g.1 ⟨g.2.1, by omega⟩]
    exact .here (by simp)
  · exact absurd (by unfold reachOf; rw [if_neg g]) h
def wordX (x : Int) : Prop := 0 ≤ x ∧ x ≤ 65535
theorem specCode_w (o r a b n : Int) : ∃ v t, spec_Code.f o r a b n = some (v, t) ∧ wordX v := by
  unfold spec_Code.f
  rw [specInsOk_eq, Option.bind_some]
  by_cases h : insOkB o r a b n = true
  · have q := insOkB_bounds h
    rw [if_pos h]
    refine ⟨_, _, rfl, ?_⟩
    unfold wordX
    rw [wrap_small (x := 16 * r) (by omega) (by omega), wrap_small (x := 64 * a) (by omega) (by omega), wrap_small (x := 256 * b) (by omega) (by omega), wrap_small (x := 1024 * n) (by omega) (by omega)]
    rw [wrap_small (x := o + 16 * r) (by omega) (by omega)]
    rw [wrap_small (x := o + 16 * r + 64 * a) (by omega) (by omega)]
    rw [wrap_small (x := o + 16 * r + 64 * a + 256 * b) (by omega) (by omega)]
    rw [wrap_small (x := o + 16 * r + 64 * a + 256 * b + 1024 * n) (by omega) (by omega)]
    omega
  · rw [if_neg h]; exact ⟨_, _, rfl, by unfold wordX; omega⟩
theorem specCodeW_fn : ∃ cf : Int → Int → Int → Int → Int → Int × Bool, (∀ o r a b n, spec_Code.f o r a b n = some (cf o r a b n)) ∧ ∀ o r a b n, wordX (cf o r a b n).1 := by
  have h : ∀ o r a b n, ∃ v : Int × Bool, spec_Code.f o r a b n = some v ∧ wordX v.1 := fun o r a b n => by
    obtain ⟨v, t, e, w⟩ := specCode_w o r a b n
    exact ⟨(v, t), e, w⟩
  exact ⟨fun o r a b n => (h o r a b n).choose, fun o r a b n => (h o r a b n).choose_spec.1, fun o r a b n => (h o r a b n).choose_spec.2⟩
theorem words_set {m : List Int} {i : Nat} {v : Int} (h : ∀ x ∈ m, wordX x) (hv : wordX v) : ∀ x ∈ m.set i v, wordX x := fun x hx => by
  rcases List.mem_or_eq_of_mem_set hx with hx | rfl
  · exact h x hx
  · exact hv
theorem words_snoc {m : List Int} {v : Int} (h : ∀ x ∈ m, wordX x) (hv : wordX v) : ∀ x ∈ m ++ [v], wordX x := fun x hx => by
  rcases List.mem_append.1 hx with hx | hx
  · exact h x hx
  · rw [List.mem_singleton] at hx; subst hx; exact hv
theorem drawMemW_l1 (c : List Int) (i s : Int) (T : List S41) (hT : T.length = 4) : ∀ (k j : Nat) (m : List Int), m.length = 24 → (∀ x ∈ m, wordX x) → j ≤ 4 → 4 < j + k → ∃ m', spec_l9DrawMem.l1 k m T (j : Int) c i s = some (m', i, s) ∧ m'.length = 24 ∧ ∀ x ∈ m', wordX x
  | 0, j, m, _, _, h1, h2 => by omega
  | k + 1, j, m, hm, hw, h1, h2 => by
    obtain ⟨cf, hcf, hcw⟩ := specCodeW_fn
    rw [spec_l9DrawMem.l1]
    by_cases h : j < 4
    · rw [if_pos (by omega), if_pos (by omega), hcf, Option.bind_some, if_pos (by omega), wrap_succ (by omega)]
      exact drawMemW_l1 c i s T hT k (j + 1) _ (by simpa using hm) (words_set hw (hcw _ _ _ _ _)) (by omega) (by omega)
    · rw [if_neg (by omega)]; exact ⟨m, rfl, hm, hw⟩
theorem drawMemW_l2 (c : List Int) (i s : Int) (T : List S41) (hT : T.length = 4) : ∀ (k j : Nat) (m : List Int), m.length = 24 → (∀ x ∈ m, wordX x) → j ≤ 4 → 4 < j + k → ∃ m', spec_l9DrawMem.l2 k m T (j : Int) c i s = some (m', i, s) ∧ m'.length = 24 ∧ ∀ x ∈ m', wordX x
  | 0, j, m, _, _, h1, h2 => by omega
  | k + 1, j, m, hm, hw, h1, h2 => by
    obtain ⟨cf, hcf, hcw⟩ := specCodeW_fn
    rw [spec_l9DrawMem.l2]
    by_cases h : j < 4
    · rw [if_pos (by omega), if_pos (by omega), hcf, Option.bind_some, if_pos (by omega), wrap_succ (by omega)]
      exact drawMemW_l2 c i s T hT k (j + 1) _ (by simpa using hm) (words_set hw (hcw _ _ _ _ _)) (by omega) (by omega)
    · rw [if_neg (by omega)]; exact ⟨m, rfl, hm, hw⟩
theorem drawMemW_l0 (c : List Int) : ∀ (k j : Nat) (m : List Int) (i s : Int), curOk c i → m.length = j → (∀ x ∈ m, wordX x) → j ≤ 24 → 40 < j + k → ∃ m' i' s', spec_l9DrawMem.l0 k m (j : Int) c i s = some (m', i', s') ∧ m'.length = 24 ∧ (∀ x ∈ m', wordX x) ∧ curOk c i'
  | 0, j, m, i, s, _, _, _, h1, h2 => by omega
  | k + 1, j, m, i, s, hc, hm, hw, h1, h2 => by
    obtain ⟨cf, hcf, hcw⟩ := specCodeW_fn
    have pick : ∀ v : Int, v ∈ ([0, 1, 5, 65535] : List Int) → wordX v := fun v hv => by
      simp only [List.mem_cons, List.mem_nil_iff, or_false, List.not_mem_nil] at hv
      unfold wordX; omega
    rw [spec_l9DrawMem.l0]
    by_cases h : j < 24
    · obtain ⟨o, r, a, b, n, i1, s1, e1, c1⟩ := drawIns_ex c i s hc k (by omega)
      rw [if_pos (by omega), e1, Option.bind_some, hcf, Option.bind_some]
      obtain ⟨v2, i2, s2, e2, p2, c2⟩ := l1PickInt_ex c i1 s1 c1 [0, 1, 5, 65535] (by simp) (by simp)
      obtain ⟨v3, i3, s3, e3, c3⟩ := l1Once_ex c i1 s1 c1 9 (by omega) (by omega)
      obtain ⟨v4, i4, s4, e4, p4, c4⟩ := l1PickInt_ex c i3 s3 c3 [0, 1, 5, 65535] (by simp) (by simp)
      have next : ∀ (x : Int) i s, wordX x → curOk c i → ∃ m' i' s', (if m.length < 17592186044416 then (spec_l9DrawMem.l0 k (m ++ [x]) (wrap64 ((j : Int) + 1)) c i s) else none) = some (m', i', s') ∧ m'.length = 24 ∧ (∀ x ∈ m', wordX x) ∧ curOk c i' := by
        intro x i s hx hc
        rw [if_pos (by omega), wrap_succ (by omega)]
        exact drawMemW_l0 c k (j + 1) _ i s hc (by simp; omega) (words_snoc hw hx) (by omega) (by omega)
      by_cases h15 : (j : Int) > 15
      · rw [if_pos h15]
        simp only [e2, Option.bind_some]; exact next _ _ _ (pick _ p2) c2
      · rw [if_neg h15]
        simp only [e3, Option.bind_some]
        by_cases hv : v3 = true
        · rw [if_pos hv]
          simp only [e4, Option.bind_some]; exact next _ _ _ (pick _ p4) c4
        · rw [if_neg hv]; exact next _ _ _ (hcw _ _ _ _ _) c3
    · obtain ⟨v, i1, s1, e1, _, _, c1⟩ := l1Below_ex c i s hc 4 (by omega) (by omega)
      rw [if_neg (by omega), e1, Option.bind_some]
      by_cases h0 : v = 0
      · obtain ⟨m', e, hl, hw'⟩ := drawMemW_l1 c i1 s1 [⟨1, 1, 0, 0, 1⟩, ⟨6, 2, 0, 1, 20⟩, ⟨10, 3, 2, 1, 0⟩, ⟨8, 0, 0, 0, 1⟩] rfl k 0 m (by omega) hw (by omega) (by omega)
        rw [if_pos h0]; exact ⟨_, _, _, e, hl, hw', c1⟩
      · rw [if_neg h0]
        by_cases h1 : v = 1
        · obtain ⟨m', e, hl, hw'⟩ := drawMemW_l2 c i1 s1 [⟨4, 1, 0, 0, 8⟩, ⟨3, 1, 1, 0, 1⟩, ⟨5, 0, 0, 1, 8⟩, ⟨8, 0, 0, 0, 8⟩] rfl k 0 m (by omega) hw (by omega) (by omega)
          rw [if_pos h1]; exact ⟨_, _, _, e, hl, hw', c1⟩
        · rw [if_neg h1]; exact ⟨_, _, _, rfl, by omega, hw, c1⟩
theorem drawMemW_ex (c : List Int) (i s : Int) (h : curOk c i) (k : Nat) (hk : 50 < k) : ∃ m i' s', spec_l9DrawMem.f k c i s = some (m, i', s') ∧ wordsB m 24 = true ∧ curOk c i' := by
  obtain ⟨m, i1, s1, e, hl, hw, hc⟩ := drawMemW_l0 c k 0 [] i s h rfl (by simp) (by omega) (by omega)
  refine ⟨m, i1, s1, e, ?_, hc⟩
  unfold wordsB
  rw [decide_eq_true (by omega), Bool.true_and, List.all_eq_true]
  exact fun x hx => decide_eq_true (hw x hx)
theorem l9Addr_eq (x : Int) : spec_l9Address.f x = some (x % 24) := by
  unfold spec_l9Address.f
  have hb := tmod_bd x 24 (by omega)
  have hu := tmod_up x 24 (by omega) (by omega)
  generalize x.tmod 24 = t at hb hu ⊢
  rw [← hu]
  by_cases c : t < 0
  · rw [if_pos c, wrap_small (by omega) (by omega), tmod_pos _ _ (by omega), Int.emod_eq_of_lt (by omega) (by omega)]
  · rw [if_neg c, tmod_pos _ _ (by omega), Int.add_emod_right, Int.emod_eq_of_lt (by omega) (by omega)]
theorem specHartNew_eq (x : Int) : spec_HartNew.f x = some ([0, 0, 0, 0], x % 24, 0) := by
  unfold spec_HartNew.f
  rw [l9Addr_eq]; rfl
theorem newHart_ok (x : Int) : hartB [0, 0, 0, 0] (x % 24) 0 = true := by
  have h1 : 0 ≤ x % 24 ∧ x % 24 ≤ 23 := by omega
  unfold hartB wordsB
  rw [decide_eq_true h1]; rfl
theorem drawHart_l0 (c : List Int) (pc st : Int) : ∀ (d j : Nat) (r : List Int) (i s : Int) (k : Nat), curOk c i → r.length = 4 → j + d = 4 → d < k → ∃ r' p' t' i' s', spec_l9DrawHart.l0 k (j : Int) c i s r pc st = some (r', p', t', i', s') ∧ r'.length ≤ 4 ∧ curOk c i'
  | 0, j, r, i, s, k, h, hr, hj, hk => by
    obtain ⟨k, rfl⟩ : ∃ q, k = q + 1 := ⟨k - 1, by omega⟩
    obtain ⟨v, i1, s1, e1, _, _, c1⟩ := l1Below_ex c i s h 12 (by omega) (by omega)
    obtain ⟨v2, i2, s2, e2, _, _, c2⟩ := l1Below_ex c i1 s1 c1 5 (by omega) (by omega)
    obtain ⟨v3, i3, s3, e3, _, c3⟩ := l1PickInt_ex c i1 s1 c1 [(-1), 65536] (by simp) (by simp)
    obtain ⟨v4, i4, s4, e4, _, c4⟩ := l1PickInt_ex c i1 s1 c1 [(-1), 24] (by simp) (by simp)
    simp only [spec_l9DrawHart.l0]
    rw [if_neg (by omega)]
    simp only [e1, e2, e3, e4, Option.bind_some]
    by_cases h0 : v = 0
    · rw [if_pos h0]; exact ⟨_, _, _, _, _, rfl, by omega, c2⟩
    · rw [if_neg h0]
      by_cases h1 : v = 1
      · rw [if_pos h1, if_pos (by omega)]; exact ⟨_, _, _, _, _, rfl, by rw [List.length_set]; omega, c3⟩
      · rw [if_neg h1]
        by_cases h2 : v = 2
        · rw [if_pos h2]; exact ⟨_, _, _, _, _, rfl, by omega, c4⟩
        · rw [if_neg h2]
          by_cases h3 : v = 3
          · rw [if_pos h3, if_pos (by omega)]; exact ⟨_, _, _, _, _, rfl, by rw [List.length_drop]; omega, c1⟩
          · rw [if_neg h3]; exact ⟨_, _, _, _, _, rfl, by omega, c1⟩
  | d + 1, j, r, i, s, k, h, hr, hj, hk => by
    obtain ⟨k, rfl⟩ : ∃ q, k = q + 1 := ⟨k - 1, by omega⟩
    obtain ⟨v, i1, s1, e1, _, c1⟩ := l1PickInt_ex c i s h [0, 1, 2, 20, 65535] (by simp) (by simp)
    simp only [spec_l9DrawHart.l0]
    rw [if_pos (by omega), e1, Option.bind_some, if_pos (by omega), if_pos (by omega), wrap_succ (by omega)]
    exact drawHart_l0 c pc st d (j + 1) _ i1 s1 k c1 (by rw [List.length_set]; exact hr) (by omega) (by omega)
theorem drawHart_ex (c : List Int) (i s : Int) (h : curOk c i) (k : Nat) (hk : 10 < k) : ∃ r p t i' s', spec_l9DrawHart.f k c i s = some (r, p, t, i', s') ∧ r.length ≤ 4 ∧ curOk c i' := by
  unfold spec_l9DrawHart.f
  obtain ⟨v, i1, s1, e1, _, _, c1⟩ := l1Below_ex c i s h 20 (by omega) (by omega)
  rw [e1, Option.bind_some, specHartNew_eq, Option.bind_some]
  exact drawHart_l0 c _ _ 4 0 _ i1 s1 k c1 rfl (by omega) (by omega)
/-- What a drawn run is like. -/
def runOk (m : List Int) (hs : List S29) (o : List Int) : Prop := wordsB m 24 = true ∧ (1 ≤ hs.length ∧ hs.length ≤ 3) ∧ (∀ h ∈ hs, hartB h.f0 h.f1 h.f2 = true) ∧ o.length ≤ 100 ∧ ∀ x ∈ o, 0 ≤ x ∧ x < (hs.length : Int)
theorem drawRun_l1 (c : List Int) (most : Int) (hmost : 1 ≤ most ∧ most ≤ 100) (m : List Int) (hs : List S29) (hm : wordsB m 24 = true) (hl : 1 ≤ hs.length ∧ hs.length ≤ 3) (hh : ∀ h ∈ hs, hartB h.f0 h.f1 h.f2 = true) : ∀ (d j : Nat) (o : List Int) (i s : Int) (k : Nat), curOk c i → o.length = j → (∀ x ∈ o, 0 ≤ x ∧ x < (hs.length : Int)) → j + d = 100 → 10 + d < k →
    ∃ o' i' s', spec_l18DrawRun.l1 k most m hs o (j : Int) c i s = some (m, hs, o', i', s') ∧ runOk m hs o' ∧ curOk c i'
  | d, j, o, i, s, k, h, hj, ho, hd, hk => by
    obtain ⟨k, rfl⟩ : ∃ q, k = q + 1 := ⟨k - 1, by omega⟩
    obtain ⟨v, i1, s1, e1, p1, q1, c1⟩ := l1Below_ex c i s h most (by omega) (by omega)
    simp only [spec_l18DrawRun.l1]
    rw [e1, Option.bind_some]
    dsimp only
    by_cases hc : (j : Int) < v
    · match d, hd, hk with
      | 0, hd, _ => omega
      | d + 1, hd, hk =>
        obtain ⟨v2, i2, s2, e2, p2, q2, c2⟩ := l1Below_ex c i1 s1 c1 (hs.length : Int) (by omega) (by omega)
        rw [if_pos hc, e2, Option.bind_some]
        dsimp only
        rw [if_pos (by omega), wrap_succ (by omega)]
        exact drawRun_l1 c most hmost m hs hm hl hh d (j + 1) _ i2 s2 k c2 (by rw [List.length_append, hj]; rfl) (fun x hx => by
          rcases List.mem_append.1 hx with hx | hx
          · exact ho x hx
          · rw [List.mem_singleton] at hx; subst hx; exact ⟨p2, q2⟩) (by omega) (by omega)
    · rw [if_neg hc]
      exact ⟨_, _, _, rfl, ⟨hm, hl, hh, by omega, ho⟩, c1⟩
theorem drawRun_l0 (c : List Int) (most : Int) (hmost : 1 ≤ most ∧ most ≤ 100) (m : List Int) (hm : wordsB m 24 = true) : ∀ (d j : Nat) (hs : List S29) (i s : Int) (k : Nat), curOk c i → hs.length = j → (∀ h ∈ hs, hartB h.f0 h.f1 h.f2 = true) → j + d = 3 → 300 + d < k →
    ∃ hs' o' i' s', spec_l18DrawRun.l0 k most m hs (j : Int) c i s = some (m, hs', o', i', s') ∧ runOk m hs' o' ∧ curOk c i'
  | d, j, hs, i, s, k, h, hj, hh, hd, hk => by
    obtain ⟨k, rfl⟩ : ∃ q, k = q + 1 := ⟨k - 1, by omega⟩
    obtain ⟨v, i1, s1, e1, p1, q1, c1⟩ := l1Below_ex c i s h 3 (by omega) (by omega)
    simp only [spec_l18DrawRun.l0]
    rw [e1, Option.bind_some]
    dsimp only
    rw [wrap_small (x := 1 + v) (by omega) (by omega)]
    by_cases hc : (j : Int) < 1 + v
    · match d, hd, hk with
      | 0, hd, _ => omega
      | d + 1, hd, hk =>
        obtain ⟨r, p, t, i2, s2, e2, hr, c2⟩ := drawHart_ex c i1 s1 c1 k (by omega)
        rw [if_pos hc, e2, Option.bind_some]
        dsimp only
        rw [specHartOk_eq r p t (by omega) k (by omega), Option.bind_some]
        have more : ∀ (z : S29) (i s : Int), hartB z.f0 z.f1 z.f2 = true → curOk c i → ∃ hs' o' i' s', spec_l18DrawRun.l0 k most m (hs ++ [z]) ((j + 1 : Nat) : Int) c i s = some (m, hs', o', i', s') ∧ runOk m hs' o' ∧ curOk c i' := fun z i s hz hci =>
          drawRun_l0 c most hmost m hm d (j + 1) _ i s k hci (by rw [List.length_append, hj]; rfl) (fun x hx => by
            rcases List.mem_append.1 hx with hx | hx
            · exact hh x hx
            · rw [List.mem_singleton] at hx; subst hx; exact hz) (by omega) (by omega)
        by_cases hb : hartB r p t = true
        · rw [if_pos hb, if_pos (by omega), wrap_succ (by omega)]
          exact more _ _ _ hb c2
        · obtain ⟨v3, i3, s3, e3, _, _, c3⟩ := l1Below_ex c i2 s2 c2 20 (by omega) (by omega)
          rw [if_neg hb, e3, Option.bind_some, specHartNew_eq, Option.bind_some, if_pos (by omega), wrap_succ (by omega)]
          exact more _ _ _ (newHart_ok _) c3
    · rw [if_neg hc]
      obtain ⟨o', i2, s2, e2, hok, c2⟩ := drawRun_l1 c most hmost m hs hm (by omega) hh 100 0 [] i1 s1 k c1 rfl (by simp) (by omega) (by omega)
      exact ⟨_, _, _, _, e2, hok, c2⟩
theorem drawRun_ex (c : List Int) (i s : Int) (h : curOk c i) (most : Int) (hmost : 1 ≤ most ∧ most ≤ 100) (k : Nat) (hk : 400 < k) : ∃ m hs o i' s', spec_l18DrawRun.f k c i s most = some (m, hs, o, i', s') ∧ runOk m hs o ∧ curOk c i' := by
  unfold spec_l18DrawRun.f
  obtain ⟨m, i1, s1, e1, hm, c1⟩ := drawMemW_ex c i s h k (by omega)
  rw [e1, Option.bind_some]
  dsimp only
  obtain ⟨hs, o, i2, s2, e2, hok, c2⟩ := drawRun_l0 c most hmost m hm 3 0 [] i1 s1 k c1 rfl (by simp) (by omega) (by omega)
  exact ⟨_, _, _, _, _, e2, hok, c2⟩
theorem drawSteps_ex (c : List Int) (hc : c.length ≤ 1048576) (k : Nat) (hk : 10000 < k) : ∃ m hs o, spec_DrawSteps.f k c = some (m, hs, o) ∧ runOk m hs o := by
  unfold spec_DrawSteps.f spec_l1Long.f
  obtain ⟨i0, s0, e0, c0⟩ := l1New_ex c hc k (by omega)
  rw [e0, Option.bind_some]
  have hd : 0 ≤ (c.length : Int) / 4 ∧ (c.length : Int) / 4 ≤ 1048576 := by omega
  rw [wrap_small (x := (c.length : Int) / 4) (by omega) (by omega), wrap_small (x := 40 + (c.length : Int) / 4) (by omega) (by omega)]
  by_cases hb : 40 + (c.length : Int) / 4 > 80
  · obtain ⟨m, hs, o, i1, s1, e1, hok, _⟩ := drawRun_ex c i0 s0 c0 80 (by omega) k (by omega)
    rw [if_pos hb, Option.bind_some]
    dsimp only
    rw [e1, Option.bind_some]
    exact ⟨_, _, _, rfl, hok⟩
  · obtain ⟨m, hs, o, i1, s1, e1, hok, _⟩ := drawRun_ex c i0 s0 c0 (40 + (c.length : Int) / 4) (by omega) k (by omega)
    rw [if_neg hb, Option.bind_some]
    dsimp only
    rw [e1, Option.bind_some]
    exact ⟨_, _, _, rfl, hok⟩
theorem hartB_mk {r : List Int} {p s : Int} (h1 : r.length = 4) (h2 : ∀ x ∈ r, 0 ≤ x ∧ x ≤ 65535) (h3 : 0 ≤ p ∧ p ≤ 23) (h4 : 0 ≤ s ∧ s ≤ 2) : hartB r p s = true := by
  unfold hartB wordsB
  rw [decide_eq_true h3, decide_eq_true h4, decide_eq_true (by omega), List.all_eq_true.2 fun x hx => decide_eq_true (h2 x hx)]; rfl
theorem set_word {r : List Int} {i : Nat} {v : Int} (h2 : ∀ x ∈ r, 0 ≤ x ∧ x ≤ 65535) (hv : 0 ≤ v ∧ v ≤ 65535) : ∀ x ∈ r.set i v, 0 ≤ x ∧ x ≤ 65535 := fun x hx => by
  rcases List.mem_or_eq_of_mem_set hx with hx | rfl
  · exact h2 x hx
  · exact hv
theorem workV_ok (r : List Int) (pc st o i a b n got : Int) (h : hartB r pc st = true) : hartB (workV r pc st o i a b n got).1 (workV r pc st o i a b n got).2.1 (workV r pc st o i a b n got).2.2.1 = true ∧ (workV r pc st o i a b n got).2.2.2 ≤ 65535 := by
  obtain ⟨p1, p2, p3, p4⟩ := hartB_parts h
  have wa := rd_word p2 a
  have wb := rd_word p2 b
  unfold workV
  by_cases c : hartB r pc st = true ∧ st = 0 ∧ (0 ≤ got ∧ got ≤ 65535)
  · rw [if_pos c]
    by_cases hi : insOkB o i a b n = true
    · have q := insOkB_bounds hi
      have hst := c.2.1
      have hg := c.2.2
      have s1 : ∀ v : Int, 0 ≤ v ∧ v ≤ 65535 → hartB (r.set i.toNat v) ((pc + 1) % 24) st = true := fun v hv => hartB_mk (by rw [List.length_set]; exact p1) (set_word p2 hv) (by omega) p4
      rw [if_pos hi]
      unfold opV
      split
      · exact ⟨s1 _ (by omega), by dsimp only; omega⟩
      split
      · exact ⟨s1 _ (by omega), by dsimp only; omega⟩
      split
      · exact ⟨s1 _ (by omega), by dsimp only; omega⟩
      split
      · exact ⟨s1 _ (by omega), by dsimp only; omega⟩
      split
      · exact ⟨s1 _ hg, by dsimp only; omega⟩
      split
      · exact ⟨hartB_mk p1 p2 (by dsimp only; omega) p4, wb.2⟩
      split
      · exact ⟨s1 _ hg, by dsimp only; omega⟩
      split
      · split
        · exact ⟨hartB_mk p1 p2 (by dsimp only; omega) p4, by dsimp only; omega⟩
        · exact ⟨hartB_mk p1 p2 (by dsimp only; omega) p4, by dsimp only; omega⟩
      split
      · exact ⟨hartB_mk p1 p2 (by dsimp only; omega) p4, by dsimp only; omega⟩
      split
      · exact ⟨hartB_mk p1 p2 p3 (by dsimp only; omega), by dsimp only; omega⟩
      · exact ⟨hartB_mk p1 p2 (by dsimp only; omega) p4, by dsimp only; omega⟩
    · rw [if_neg hi]; exact ⟨hartB_mk p1 p2 p3 (by dsimp only; omega), by dsimp only; omega⟩
  · rw [if_neg c]; exact ⟨h, by dsimp only; omega⟩
theorem wordsB_set {m : List Int} {i : Nat} {v : Int} (h : wordsB m 24 = true) (hv : 0 ≤ v ∧ v ≤ 65535) : wordsB (m.set i v) 24 = true := by
  have l := wordsB_24 h
  unfold wordsB
  rw [List.length_set, decide_eq_true (by omega), List.all_eq_true.2 fun x hx => decide_eq_true (set_word (fun x hx => wordsB_mem h x hx) hv x hx)]; rfl
theorem stepV_ok (m : List Int) (h : Hh) (hm : wordsB m 24 = true) (hh : hB h = true) : wordsB (stepV m h).1 24 = true ∧ hB (stepV m h).2 = true := by
  have w := workV_ok h.f0 h.f1 h.f2 (decodeV (rd m h.f1)).1 (decodeV (rd m h.f1)).2.1 (decodeV (rd m h.f1)).2.2.1 (decodeV (rd m h.f1)).2.2.2.1 (decodeV (rd m h.f1)).2.2.2.2.1 (gotV m h) hh
  have e : wkV m h = workV h.f0 h.f1 h.f2 (decodeV (rd m h.f1)).1 (decodeV (rd m h.f1)).2.1 (decodeV (rd m h.f1)).2.2.1 (decodeV (rd m h.f1)).2.2.2.1 (decodeV (rd m h.f1)).2.2.2.2.1 (gotV m h) := rfl
  rw [← e] at w
  unfold stepV
  refine ⟨?_, w.1⟩
  dsimp only
  split
  · rename_i c; exact wordsB_set hm ⟨c, w.2⟩
  · exact hm
theorem decodeV_good (w : Int) (h : (decodeV w).2.2.2.2.2 = true) : insOkB (decodeV w).1 (decodeV w).2.1 (decodeV w).2.2.1 (decodeV w).2.2.2.1 (decodeV w).2.2.2.2.1 = true := by
  unfold decodeV at h ⊢
  split at h
  · rename_i c
    rw [if_pos c]
    unfold decodeB at c
    rw [Bool.and_eq_true] at c
    exact c.2
  · simp at h
theorem decodeV_none (w : Int) (h : (decodeV w).2.2.2.2.2 = false) : insOkB (decodeV w).1 (decodeV w).2.1 (decodeV w).2.2.1 (decodeV w).2.2.2.1 (decodeV w).2.2.2.2.1 = false := by
  have e : (decodeV w).1 = 0 := by
    unfold decodeV at h ⊢
    split at h
    · simp at h
    · rename_i c; rw [if_neg c]
  cases q : insOkB (decodeV w).1 (decodeV w).2.1 (decodeV w).2.2.1 (decodeV w).2.2.2.1 (decodeV w).2.2.2.2.1
  · rfl
  · have := insOkB_bounds q; omega
theorem gotV_word (m : List Int) (h : Hh) (hm : wordsB m 24 = true) : 0 ≤ gotV m h ∧ gotV m h ≤ 65535 := by
  unfold gotV
  split
  · exact rd_word (fun x hx => wordsB_mem hm x hx) _
  · omega
theorem nx_dec (m : List Int) (pc : Int) (hm : wordsB m 24 = true) (hp : 0 ≤ pc ∧ pc ≤ 23) : nx m pc = nextOf pc (decodeV (rd m pc)) := by
  unfold nx
  rw [if_pos ⟨hm, hp⟩, implDecode_eq]; rfl
theorem opV_9 (r : List Int) (pc st i a b n got : Int) : (opV r pc st 9 i a b n got).2.1 = pc ∧ (opV r pc st 9 i a b n got).2.2.1 = 1 := by unfold opV; simp
theorem opV_8 (r : List Int) (pc st i a b n got : Int) : (opV r pc st 8 i a b n got).2.1 = n % 24 ∧ (opV r pc st 8 i a b n got).2.2.1 = st := by unfold opV; simp
theorem opV_7 (r : List Int) (pc st i a b n got : Int) : ((opV r pc st 7 i a b n got).2.1 = n % 24 ∨ (opV r pc st 7 i a b n got).2.1 = (pc + 1) % 24) ∧ (opV r pc st 7 i a b n got).2.2.1 = st := by
  have e : opV r pc st 7 i a b n got = if rd r a = 0 then (r, n % 24, st, -1) else (r, (pc + 1) % 24, st, -1) := by unfold opV; simp
  rw [e]
  by_cases c : rd r a = 0
  · rw [if_pos c]; exact ⟨.inl rfl, rfl⟩
  · rw [if_neg c]; exact ⟨.inr rfl, rfl⟩
theorem opV_x (r : List Int) (pc st o i a b n got : Int) (h7 : o ≠ 7) (h8 : o ≠ 8) (h9 : o ≠ 9) : (opV r pc st o i a b n got).2.1 = (pc + 1) % 24 ∧ (opV r pc st o i a b n got).2.2.1 = st := by
  unfold opV
  rw [if_neg h7, if_neg h8, if_neg h9]
  repeat' split
  all_goals exact ⟨rfl, rfl⟩
theorem step_next (m : List Int) (h : Hh) (hm : wordsB m 24 = true) (hh : hB h = true) (hr : h.f2 = 0) : ((stepV m h).2.f2 = 0 ∧ (stepV m h).2.f1 ∈ nx m h.f1) ∨ ((stepV m h).2.f2 ≠ 0 ∧ (stepV m h).2.f1 = h.f1) := by
  obtain ⟨p1, p2, p3, p4⟩ := hartB_parts hh
  have hg := gotV_word m h hm
  rw [nx_dec m h.f1 hm p3]
  have good := decodeV_good (rd m h.f1)
  have none_ := decodeV_none (rd m h.f1)
  have e2 : (stepV m h).2.f2 = (wkV m h).2.2.1 := rfl
  have e1 : (stepV m h).2.f1 = (wkV m h).2.1 := rfl
  rw [e1, e2]
  unfold wkV workV
  rw [if_pos ⟨hh, hr, hg⟩]
  generalize gotV m h = got
  generalize decodeV (rd m h.f1) = D at good none_
  obtain ⟨o, i, a, b, n, ok⟩ := D
  dsimp only at good none_ ⊢
  cases ok with
  | false =>
    rw [if_neg (by rw [none_ rfl]; simp)]
    exact .inr ⟨show (2 : Int) ≠ 0 by omega, rfl⟩
  | true =>
    rw [if_pos (good rfl)]
    by_cases h9 : o = 9
    · subst h9
      obtain ⟨q1, q2⟩ := opV_9 h.f0 h.f1 h.f2 i a b n got
      exact .inr ⟨by rw [q2]; omega, q1⟩
    · left
      have en : nextOf h.f1 (o, i, a, b, n, true) = if o = 8 then [n % 24] else if o = 7 then (if n % 24 = (h.f1 + 1) % 24 then [(h.f1 + 1) % 24] else if n % 24 < (h.f1 + 1) % 24 then [n % 24, (h.f1 + 1) % 24] else [(h.f1 + 1) % 24, n % 24]) else [(h.f1 + 1) % 24] := by
        unfold nextOf
        rw [if_pos (⟨rfl, h9⟩ : true = true ∧ o ≠ 9)]
      rw [en]
      by_cases h8 : o = 8
      · subst h8
        obtain ⟨q1, q2⟩ := opV_8 h.f0 h.f1 h.f2 i a b n got
        rw [if_pos rfl]
        exact ⟨q2.trans hr, by rw [q1]; simp⟩
      · rw [if_neg h8]
        by_cases h7 : o = 7
        · subst h7
          obtain ⟨q1, q2⟩ := opV_7 h.f0 h.f1 h.f2 i a b n got
          rw [if_pos rfl]
          refine ⟨q2.trans hr, ?_⟩
          rcases q1 with q1 | q1 <;> rw [q1]
          · split
            · rename_i q; rw [q]; simp
            · split <;> simp
          · split
            · simp
            · split <;> simp
        · obtain ⟨q1, q2⟩ := opV_x h.f0 h.f1 h.f2 o i a b n got h7 h8 h9
          rw [if_neg h7]
          exact ⟨q2.trans hr, by rw [q1]; simp⟩
/-- A step of what is right; else all stays. -/
def flatV (m : List Int) (h : Hh) : List Int × Hh := if wordsB m 24 = true ∧ goB h = true then stepV m h else (m, h)
theorem flatV_ok (m : List Int) (h : Hh) (hm : wordsB m 24 = true) (hh : hB h = true) : wordsB (flatV m h).1 24 = true ∧ hB (flatV m h).2 = true := by
  unfold flatV
  split
  · exact stepV_ok m h hm hh
  · exact ⟨hm, hh⟩
theorem flatV_next (m : List Int) (h : Hh) (hm : wordsB m 24 = true) (hh : hB h = true) : ((flatV m h).2.f1 = h.f1 ∧ (h.f2 = 0 → (flatV m h).2.f2 ≠ 0)) ∨ (flatV m h).2.f1 ∈ nx m h.f1 := by
  unfold flatV
  by_cases hr : h.f2 = 0
  · have hg : goB h = true := by unfold goB; rw [hh, hr]; rfl
    rw [if_pos ⟨hm, hg⟩]
    rcases step_next m h hm hh hr with ⟨q1, q2⟩ | ⟨q1, q2⟩
    · exact .inr q2
    · exact .inl ⟨q2, fun _ => q1⟩
  · have hg : ¬ (wordsB m 24 = true ∧ goB h = true) := fun q => by
      have := q.2
      unfold goB at this
      rw [Bool.and_eq_true] at this
      exact hr (by simpa using this.2)
    rw [if_neg hg]
    exact .inl ⟨rfl, fun q => absurd q hr⟩
theorem implFlatStep_eq (m : List Int) (h : Hh) (hm : wordsB m 24 = true) (hh : hB h = true) (k : Nat) (hk : 100 < k) : impl_FlatStep.f k m h.f0 h.f1 h.f2 = some ((flatV m h).1, (flatV m h).2.f0, (flatV m h).2.f1, (flatV m h).2.f2) := by
  obtain ⟨k, rfl⟩ : ∃ j, k = j + 1 := ⟨k - 1, by omega⟩
  have hl := wordsB_24 hm
  have hr := (hartB_parts hh).1
  unfold impl_FlatStep.f slices_Clone_int_int.f flatV
  rw [if_pos (by omega), Option.bind_some, memOk_eq m (by omega) _ (by omega), Option.bind_some, if_pos hm, implGoes_eq h (by omega) _ (by omega), Option.bind_some]
  by_cases g : goB h = true
  · rw [if_pos ⟨hm, g⟩, g, Bool.not_true, impl_FlatStep.j0, if_neg (by simp), implStep_eq m h hl hh k (by omega), Option.bind_some]
  · have g' : goB h = false := by simpa using g
    rw [if_neg (fun q => g q.2), g', Bool.not_false, impl_FlatStep.j0, if_pos rfl]
    unfold impl_copyHart.f slices_Clone_int_int.f
    rw [if_pos (by omega), Option.bind_some, Option.bind_some]
theorem reachOf_start (m : List Int) (x : Int) (hm : wordsB m 24 = true) (hx : 0 ≤ x ∧ x ≤ 23) : x ∈ reachOf m x := by
  rw [reachOf_mem m x x hm ⟨hx.1, by omega⟩]
  exact .here (by simp)
theorem within_eq (l : List Int) (x : Int) (k : Nat) (hl : l.length ≤ 1048576) (hk : l.length < k) : laws_within.f k l x = some (decide (x ∈ l)) := by
  unfold laws_within.f
  have h := any_loop l (fun y => decide (y = x)) (fun k i => laws_within.l0 k l x (i : Int)) 0 (fun k i _ hi hq => by
      have hq := of_decide_eq_false hq
      simp only [laws_within.l0]
      rw [if_pos (by omega), if_pos (by omega), rd_nat l i hi, if_neg hq, wrap_succ (by omega)]) (fun k i _ hi hq => by
      have hq := of_decide_eq_true hq
      simp only [laws_within.l0]
      rw [if_pos (by omega), if_pos (by omega), rd_nat l i hi, if_pos hq]) (fun k => by
      simp only [laws_within.l0]
      rw [if_neg (by omega)]) k (by omega)
  have e : (l.any fun y => decide (y = x)) = decide (x ∈ l) := by
    rw [Bool.eq_iff_iff, List.any_eq_true, decide_eq_true_iff]
    exact ⟨fun ⟨y, hy, q⟩ => by rw [← of_decide_eq_true q]; exact hy, fun h => ⟨x, h, decide_eq_true rfl⟩⟩
  rw [← e]; exact h
theorem goes_l1 (m : List Int) (s : Int) (hm : wordsB m 24 = true) : ∀ (d i k : Nat) (g : Hh), i + d = 30 → hB g = true → g.f1 ∈ reachOf m s → 5000 + d < k → laws_FnGoes.l1 k m (reachOf m s) (i : Int) g.f0 g.f1 g.f2 = some true
  | 0, i, k, g, hi, hg, hin, hk => by
    obtain ⟨k, rfl⟩ : ∃ q, k = q + 1 := ⟨k - 1, by omega⟩
    simp only [laws_FnGoes.l1]
    rw [if_neg (by omega)]
  | d + 1, i, k, g, hi, hg, hin, hk => by
    obtain ⟨k, rfl⟩ : ∃ q, k = q + 1 := ⟨k - 1, by omega⟩
    have hl := reachOf_len m s
    simp only [laws_FnGoes.l1]
    rw [if_pos (by omega), within_eq _ _ _ (by omega) (by omega), Option.bind_some, if_pos (decide_eq_true hin), implFlatStep_eq m g hm hg k (by omega), Option.bind_some, wrap_succ (by omega)]
    refine goes_l1 m s hm d (i + 1) k _ (by omega) (flatV_ok m g hm hg).2 ?_ (by omega)
    rcases flatV_next m g hm hg with ⟨q, _⟩ | q
    · rw [q]; exact hin
    · exact reachOf_closed m s _ _ hin q
theorem goes_l0 (c : List Int) (m0 : List Int) (hs : List Hh) (o : List Int) (hd : ∀ k, 10001 ≤ k → spec_DrawSteps.f k c = some (m0, hs, o)) (hok : runOk m0 hs o) : ∀ (d i k : Nat) (m : List Int) (h : Hh), i + d = 30 → wordsB m 24 = true → hB h = true → 9000000 + d < k →
    laws_FnGoes.l0 k c m hs o (i : Int) h.f0 h.f1 h.f2 = some true
  | 0, i, k, m, h, hi, hm, hh, hk => by
    obtain ⟨k, rfl⟩ : ∃ q, k = q + 1 := ⟨k - 1, by omega⟩
    obtain ⟨hw, hl, hq, ho, _⟩ := hok
    have l24 := wordsB_24 hw
    have hx := hq _ (List.getElem_mem (l := hs) (n := 0) (by omega))
    have hp := hartB_parts hx
    simp only [laws_FnGoes.l0]
    rw [if_neg (by omega), if_pos (by omega), hd k (by omega), Option.bind_some]
    dsimp only
    rw [show (0 : Int) = ((0 : Nat) : Int) from rfl, rdH hs 0 (by omega), implWrites_eq m0 _ (by omega) k (by omega), Option.bind_some]
    obtain ⟨k, rfl⟩ : ∃ q, k = q + 1 := ⟨k - 1, by omega⟩
    by_cases q : (reachOf m0 hs[0].f1).any (wqB m0) = true
    · rw [if_pos q, laws_FnGoes.j1, if_pos rfl]
    · rw [if_neg q, show decide ((o.length : Int) > 200) = false from decide_eq_false (by omega), laws_FnGoes.j1, if_neg (by simp), if_pos (by omega), show (0 : Int) = ((0 : Nat) : Int) from rfl, rdH hs 0 (by omega)]
      unfold impl_copyHart.f slices_Clone_int_int.f
      rw [if_pos (by omega), Option.bind_some, Option.bind_some]
      dsimp only
      rw [implReach_eq m0 _ (by omega) k (by omega), Option.bind_some]
      exact goes_l1 m0 hs[0].f1 hw 30 0 k hs[0] rfl hx (reachOf_start m0 _ hw (by omega)) (by omega)
  | d + 1, i, k, m, h, hi, hm, hh, hk => by
    obtain ⟨k, rfl⟩ : ∃ q, k = q + 1 := ⟨k - 1, by omega⟩
    have l24 := wordsB_24 hm
    obtain ⟨w1, w2⟩ := flatV_ok m h hm hh
    have hn := nx_len m h.f1
    have ih := goes_l0 c m0 hs o hd hok d (i + 1) k (flatV m h).1 (flatV m h).2 (by omega) w1 w2 (by omega)
    simp only [laws_FnGoes.l0]
    rw [if_pos (by omega), implNext_eq m _ (by omega) k (by omega), Option.bind_some, implFlatStep_eq m h hm hh k (by omega), Option.bind_some, wrap_succ (by omega)]
    dsimp only
    by_cases c1 : (flatV m h).2.f2 = 0
    · rw [if_pos c1]
      by_cases c2 : h.f2 = 0
      · rw [if_pos c2]
        have hin : (flatV m h).2.f1 ∈ nx m h.f1 := by
          rcases flatV_next m h hm hh with ⟨_, q⟩ | q
          · exact absurd c1 (q c2)
          · exact q
        rw [within_eq _ _ _ (by omega) (by omega), Option.bind_some, if_pos (decide_eq_true hin)]
        exact ih
      · rw [if_neg c2]; exact ih
    · rw [if_neg c1]; exact ih
theorem FnGoes : laws_FnGoes.Pure := by
  intro c _ _ _
  obtain ⟨K, hK⟩ : ∃ K : Nat, 9900000 ≤ K := ⟨_, Nat.le_refl _⟩
  refine ⟨K + 1, ?_⟩
  unfold laws_FnGoes.f laws_big.f
  rw [Option.bind_some]
  by_cases hb : (c.length : Int) > 1048576
  · rw [if_pos (decide_eq_true hb)]
  rw [if_neg (by simpa using hb)]
  obtain ⟨m, hs, o, ed, hok⟩ := drawSteps_ex c (by omega) 10001 (by omega)
  have hd : ∀ k, 10001 ≤ k → spec_DrawSteps.f k c = some (m, hs, o) := fun k hk => by
    obtain ⟨d, rfl⟩ : ∃ d, k = 10001 + d := ⟨k - 10001, by omega⟩
    clear hk
    induction d with
    | zero => exact ed
    | succ d ih => exact spec_DrawSteps.mono _ _ _ ih
  have hok' := hok
  obtain ⟨hw, hl, hq, ho, _⟩ := hok'
  have hx := hq _ (List.getElem_mem (l := hs) (n := 0) (by omega))
  have hp := hartB_parts hx
  rw [hd (K + 1) (by omega), Option.bind_some]
  dsimp only
  rw [if_pos (by omega), show (0 : Int) = ((0 : Nat) : Int) from rfl, rdH hs 0 (by omega)]
  unfold impl_copyHart.f slices_Clone_int_int.f
  rw [if_pos (by omega), Option.bind_some, Option.bind_some]
  dsimp only
  exact goes_l0 c m hs o hd hok 30 0 (K + 1) m hs[0] rfl hw hx (by omega)
end Go.Proofs.Ytmfhfnpinmlloaa.Pure
