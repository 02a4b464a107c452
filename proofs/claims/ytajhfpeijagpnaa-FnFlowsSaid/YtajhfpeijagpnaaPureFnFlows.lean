/- For all bytes: where a drawn place may lead is told by the program as by the reference; what is come to leads nowhere else: no conditions. -/
import Derived.Test.YtajhfpeijagpnaaPFnFlowsx11
import Derived.Lib.RowBridge
namespace Go.Proofs.Ytajhfpeijagpnaa.Pure
open Go.RowKit Go.Proofs.Ytajhfpeijagpnaa.PFnFlows Go.Proofs.YtajhfpeijagpnaaW.PrintWords Go.Proofs.YtajhfpeijagpnaaW.PrintLast
set_option linter.unusedVariables false
set_option linter.unusedSimpArgs false

theorem wrap_small {x : Int} (h0 : -9223372036854775808 ≤ x) (h : x ≤ 9223372036854775807) : wrap64 x = x := by
  unfold wrap64; omega
theorem wrap_succ {i : Nat} (h : i < 4611686018427387904) : wrap64 ((i : Int) + 1) = ((i + 1 : Nat) : Int) := by
  unfold wrap64; omega
theorem rd_nat (l : List Int) (i : Nat) (h : i < l.length) : rd l (i : Int) = l[i] := by
  unfold rd; simp [List.getD, h]
theorem rd_mem (l : List Int) (i : Nat) (h : i < l.length) : rd l (i : Int) ∈ l := by
  rw [rd_nat l i h]; exact List.getElem_mem h
/-- A loop whose state is known ahead of each round. -/
theorem for_st {σ ρ : Type} (n : Nat) (L : Nat → Nat → σ → Option ρ) (st : Nat → σ) (r : ρ) (hs : ∀ k i, i < n → L (k + 1) i (st i) = L k (i + 1) (st (i + 1))) (he : ∀ k, L (k + 1) n (st n) = some r) :
    ∀ (k i : Nat), i ≤ n → n < i + k → L k i (st i) = some r
  | 0, i, hi, hk => by omega
  | k + 1, i, hi, hk => by
    by_cases h : i < n
    · rw [hs k i h]; exact for_st n L st r hs he k (i + 1) (by omega) (by omega)
    · have : i = n := by omega
      subst this; exact he k
/-- A loop that ends at the first place where p holds. -/
theorem for_find {ρ : Type} (n : Nat) (L : Nat → Nat → Option ρ) (p : Nat → Prop) (b : Nat → ρ) (r : ρ) (hs : ∀ k i, i < n → ¬ p i → L (k + 1) i = L k (i + 1)) (hb : ∀ k i, i < n → p i → L (k + 1) i = some (b i)) (he : ∀ k, L (k + 1) n = some r) :
    ∀ (k i : Nat), i ≤ n → n < i + k → (∃ j, i ≤ j ∧ j < n ∧ p j ∧ (∀ m, i ≤ m → m < j → ¬ p m) ∧ L k i = some (b j)) ∨ (∀ j, i ≤ j → j < n → ¬ p j) ∧ L k i = some r
  | 0, i, hi, hk => by omega
  | k + 1, i, hi, hk => by
    by_cases h : i < n
    · by_cases hp : p i
      · exact .inl ⟨i, Nat.le_refl _, h, hp, fun m h1 h2 => by omega, hb k i h hp⟩
      · rw [hs k i h hp]
        rcases for_find n L p b r hs hb he k (i + 1) (by omega) (by omega) with ⟨j, h1, h2, h3, h4, h5⟩ | ⟨h1, h2⟩
        · refine .inl ⟨j, by omega, h2, h3, fun m hm1 hm2 => ?_, h5⟩
          by_cases e : m = i
          · subst e; exact hp
          · exact h4 m (by omega) hm2
        · refine .inr ⟨fun j hj1 hj2 => ?_, h2⟩
          by_cases e : j = i
          · subst e; exact hp
          · exact h1 j (by omega) hj2
    · have : i = n := by omega
      subst this; exact .inr ⟨fun j h1 h2 => by omega, he k⟩
/-- The same for a Bool: do all places pass? -/
theorem for_all {n : Nat} {L : Nat → Nat → Option Bool} (p : Nat → Prop) (hs : ∀ k i, i < n → p i → L (k + 1) i = L k (i + 1)) (hb : ∀ k i, i < n → ¬ p i → L (k + 1) i = some false) (c : Bool) (he : ∀ k, L (k + 1) n = some c) {q : Bool}
    (hq : q = true ↔ (∀ j, j < n → p j) ∧ c = true) (k : Nat) (hk : n < k) : L k 0 = some q := by
  rcases for_find n L (fun i => ¬ p i) (fun _ => false) c (fun k i h hp => hs k i h (Classical.not_not.1 hp)) (fun k i h hp => hb k i h hp) he k 0 (Nat.zero_le _) (by omega) with ⟨j, _, h2, h3, _, h5⟩ | ⟨h1, h2⟩
  · rw [h5]; congr 1; symm
    rw [Bool.eq_false_iff]; intro hh; exact h3 ((hq.1 hh).1 j h2)
  · rw [h2]; congr 1
    have : ∀ j, j < n → p j := fun j hj => Classical.not_not.1 (h1 j (Nat.zero_le _) hj)
    rw [Bool.eq_iff_iff, hq]; exact ⟨fun h => ⟨this, h⟩, fun h => h.2⟩
/-- What is written, place by place. -/
theorem set_step {α : Type} (a b : List α) (i : Nat) (hi : i < a.length) (hb : b.length = a.length) : (a.take i ++ b.drop i).set i (a[i]'hi) = a.take (i + 1) ++ b.drop (i + 1) := by
  rw [List.set_append_right _ _ (by simp; omega), List.length_take, Nat.min_eq_left (by omega), Nat.sub_self, List.take_succ_eq_append_getElem hi, List.append_assoc]
  congr 1
  rw [List.drop_eq_getElem_cons (by omega)]
  rfl
theorem snoc_step {α : Type} (a : List α) (i : Nat) (hi : i < a.length) : a.take i ++ [a[i]'hi] = a.take (i + 1) := by
  rw [List.take_succ_eq_append_getElem hi]
theorem eq_iff_all (a b : List Int) (h : a.length = b.length) : a = b ↔ ∀ j, j < a.length → rd a (j : Int) = rd b (j : Int) := by
  constructor
  · rintro rfl j _; rfl
  · intro hh; refine List.ext_getElem h (fun j h1 h2 => ?_)
    have := hh j h1
    rwa [rd_nat a j h1, rd_nat b j h2] at this
/-- What marks hold: s, s + 1, .. -/
def iota (s : Int) (n : Nat) : List Int := (List.range n).map fun (i : Nat) => s + (i : Int)
theorem iota_length (s : Int) (n : Nat) : (iota s n).length = n := by simp [iota]
theorem iota_get (s : Int) (n i : Nat) (h : i < n) : (iota s n)[i]'(by rw [iota_length]; exact h) = s + i := by simp [iota]
/-- The same as bytes. -/
def iota8 (s : Int) (n : Nat) : List Int := (List.range n).map fun (i : Nat) => (s + (i : Int)) % 256
theorem iota8_length (s : Int) (n : Nat) : (iota8 s n).length = n := by simp [iota8]
theorem iota8_get (s : Int) (n i : Nat) (h : i < n) : (iota8 s n)[i]'(by rw [iota8_length]; exact h) = (s + i) % 256 := by simp [iota8]
theorem wraps_i64 (n : Int) (h0 : 0 ≤ n) (h1 : n < 2 ^ 62) : IntKind.i64.wrap n = n := by rw [IntKind.wrap_i64]; omega
theorem and255 (x : Int) (h0 : 0 ≤ x) (h : x ≤ 65535) : Go.bits .and .i64 x 255 = x % 256 := bits_mask .i64 62 (by decide) wraps_i64 8 (by decide) x h0 (by omega)
/-- Does a search find something. -/
theorem idx_any {n : Nat} (L : Nat → Nat → Option Int) (q : Nat → Bool) (hs : ∀ k i, i < n → q i = false → L (k + 1) i = L k (i + 1)) (hb : ∀ k i, i < n → q i = true → L (k + 1) i = some (i : Int)) (he : ∀ k, L (k + 1) n = some (-1)) (r : Bool)
    (hr : r = true ↔ ∃ j, j < n ∧ q j = true) (k : Nat) (hk : n < k) : ∃ v, L k 0 = some v ∧ decide (v ≥ 0) = r := by
  rcases for_find n L (fun i => q i = true) (fun i => (i : Int)) (-1) (fun k i h hp => hs k i h (by simpa using hp)) hb he k 0 (Nat.zero_le _) (by omega) with ⟨j, _, h2, h3, _, h5⟩ | ⟨h1, h2⟩
  · refine ⟨_, h5, ?_⟩
    rw [decide_eq_true (by omega : (j : Int) ≥ 0)]; exact (hr.2 ⟨j, h2, h3⟩).symm
  · refine ⟨_, h2, ?_⟩
    rw [decide_eq_false (by omega : ¬ (-1 : Int) ≥ 0)]; symm; rw [Bool.eq_false_iff]; intro hh
    obtain ⟨j, hj, hq⟩ := hr.1 hh
    exact h1 j (Nat.zero_le _) hj hq
/-- A count that goes down, item by item, and stops below nothing. -/
theorem sz_loop {n C : Nat} {M : Int} (L : Nat → Nat → Int → Option Int) (P : Nat → Prop) (hs : ∀ k i a, i < n → C ≤ k → 0 ≤ a → a ≤ M → (∃ r, r < 0 ∧ L (k + 1) i a = some r) ∨ ∃ t, 0 ≤ t ∧ t ≤ a ∧ P i ∧ L (k + 1) i a = L k (i + 1) t)
    (he : ∀ k a, L (k + 1) n a = some a) : ∀ (m i : Nat) (a : Int), i ≤ n → n < i + m → 0 ≤ a → a ≤ M → ∃ r, L (m + C) i a = some r ∧ r ≤ a ∧ (0 ≤ r → ∀ j, i ≤ j → j < n → P j)
  | 0, i, a, hi, hm, _, _ => by omega
  | m + 1, i, a, hi, hm, h0, h1 => by
    rw [show m + 1 + C = (m + C) + 1 by omega]
    by_cases h : i < n
    · rcases hs (m + C) i a h (by omega) h0 h1 with ⟨r, hr, e⟩ | ⟨t, ht0, ht, hp, e⟩
      · exact ⟨r, e, by omega, fun h => by omega⟩
      · obtain ⟨r, e2, hr, hq⟩ := sz_loop L P hs he m (i + 1) t (by omega) (by omega) ht0 (by omega)
        refine ⟨r, by rw [e, e2], by omega, fun h0 j hj1 hj2 => ?_⟩
        by_cases c : j = i
        · subst c; exact hp
        · exact hq h0 j (by omega) hj2
    · have : i = n := by omega
      subst this
      exact ⟨a, he _ _, Int.le_refl _, fun _ j h1 h2 => by omega⟩
/-- A list made place by place. -/
theorem to_loop {α : Type} {C : Nat} (v z : List α) (hz : z.length = v.length) (L : Nat → Nat → List α → Option (List α)) (hs : ∀ k i s (hi : i < v.length), C ≤ k → s.length = v.length → L (k + 1) i s = L k (i + 1) (s.set i (v[i]'hi)))
    (he : ∀ k s, L (k + 1) v.length s = some s) (k : Nat) (hk : v.length + C < k) : L k 0 z = some v := by
  have h := for_st v.length (fun k' i (s : List α) => L (k' + C) i s) (fun i => v.take i ++ z.drop i) v ?_ ?_ (k - C) 0 (Nat.zero_le _) (by omega)
  · rw [show k - C + C = k by omega] at h; simpa using h
  · intro k' i hi
    rw [show k' + 1 + C = (k' + C) + 1 by omega, hs _ _ _ hi (by omega) (by simp; omega), set_step _ _ _ hi hz]
  · intro k'
    rw [show k' + 1 + C = (k' + C) + 1 by omega, he, List.take_of_length_le (Nat.le_refl _), List.drop_of_length_le (by omega), List.append_nil]
/-- Equal, place by place. -/
theorem same_loop {n C : Nat} (L : Nat → Nat → Option Bool) (hs : ∀ k i, i < n → C ≤ k → L (k + 1) i = L k (i + 1)) (he : ∀ k, L (k + 1) n = some true) (k : Nat) (hk : n + C < k) : L k 0 = some true := by
  have h := for_st n (fun k' i (_ : Unit) => L (k' + C) i) (fun _ => ()) true ?_ ?_ (k - C) 0 (Nat.zero_le _) (by omega)
  · rw [show k - C + C = k by omega] at h; exact h
  · intro k' i hi; rw [show k' + 1 + C = (k' + C) + 1 by omega, hs _ _ hi (by omega)]
  · intro k'; rw [show k' + 1 + C = (k' + C) + 1 by omega, he]
def wordsB (l : List Int) (n : Int) : Bool := decide ((l.length : Int) = n) && l.all (fun x => decide (0 ≤ x ∧ x ≤ 65535))
theorem wordsB_mem {l : List Int} {n : Int} (h : wordsB l n = true) (x : Int) (hx : x ∈ l) : 0 ≤ x ∧ x ≤ 65535 := by
  unfold wordsB at h; rw [Bool.and_eq_true, List.all_eq_true] at h; exact of_decide_eq_true (h.2 x hx)
/-- Is it a hart: four words, a cell, a state. -/
def hartB (regs : List Int) (pc st : Int) : Bool := wordsB regs 4 && (decide (0 ≤ pc ∧ pc ≤ 23) && decide (0 ≤ st ∧ st ≤ 2))
theorem ite_some' (b c : Bool) : (if b = true then some c else some false) = some (b && c) := by cases b <;> rfl
theorem hartB_len {r : List Int} {p s : Int} (h : hartB r p s = true) : r.length = 4 := by
  unfold hartB wordsB at h; rw [Bool.and_eq_true, Bool.and_eq_true] at h; have := of_decide_eq_true h.1.1; omega
theorem wordsB_24 {l : List Int} (h : wordsB l 24 = true) : l.length = 24 := by unfold wordsB at h; rw [Bool.and_eq_true] at h; have := of_decide_eq_true h.1; omega
theorem tmod_pos (n c : Int) (h : 0 ≤ n) : Int.tmod n c = n % c := Int.tmod_eq_emod_of_nonneg h
theorem tmod_neg (n c : Int) (h : n < 0) : Int.tmod n c = -((-n) % c) := by
  rw [← Int.tmod_eq_emod_of_nonneg (by omega : 0 ≤ -n), Int.neg_tmod, Int.neg_neg]
theorem tdiv_pos (n c : Int) (h : 0 ≤ n) : Int.tdiv n c = n / c := Int.tdiv_eq_ediv_of_nonneg h
/-- A remainder brought up from below nothing. -/
theorem tmod_up (n c : Int) (hc : 0 < c) (hb : c ≤ 4294967296) : Int.tmod (Int.tmod n c + c) c = n % c := by
  have h1 := Int.emod_nonneg n (by omega : c ≠ 0)
  have h2 := Int.emod_lt_of_pos n hc
  rcases Int.lt_or_le n 0 with h | h
  · rw [tmod_neg n c h]
    have h3 := Int.emod_nonneg (-n) (by omega : c ≠ 0)
    have h4 := Int.emod_lt_of_pos (-n) hc
    rw [tmod_pos _ _ (by omega), Int.add_emod_right, ← Int.sub_emod_right]
    have := Int.emod_add_mul_ediv (-n) c
    have e : -(-n % c) - c = n + c * ((-n) / c - 1) := by
      have : n = -(-n % c) - c * ((-n) / c) := by omega
      rw [Int.mul_sub]; omega
    rw [e, Int.add_mul_emod_self_left]
  · rw [tmod_pos n c h, tmod_pos _ _ (by omega), Int.add_emod_right, Int.emod_emod_of_dvd _ (Int.dvd_refl c)]
theorem tmod_bd (n c : Int) (hc : 0 < c) : -c < Int.tmod n c ∧ Int.tmod n c < c := by
  rcases Int.lt_or_le n 0 with h | h
  · rw [tmod_neg n c h]
    have h3 := Int.emod_nonneg (-n) (by omega : c ≠ 0)
    have h4 := Int.emod_lt_of_pos (-n) hc
    omega
  · rw [tmod_pos n c h]
    have h3 := Int.emod_nonneg n (by omega : c ≠ 0)
    have h4 := Int.emod_lt_of_pos n hc
    omega
/-- for_st, where some rounds stay over. -/
theorem for_stC {σ ρ : Type} (C n : Nat) (L : Nat → Nat → σ → Option ρ) (st : Nat → σ) (r : ρ) (hs : ∀ k i, C ≤ k → i < n → L (k + 1) i (st i) = L k (i + 1) (st (i + 1))) (he : ∀ k, C ≤ k → L (k + 1) n (st n) = some r) :
    ∀ (k i : Nat), i ≤ n → n + C < i + k → L k i (st i) = some r
  | 0, i, hi, hk => by omega
  | k + 1, i, hi, hk => by
    by_cases h : i < n
    · rw [hs k i (by omega) h]; exact for_stC C n L st r hs he k (i + 1) (by omega) (by omega)
    · have : i = n := by omega
      subst this; exact he k (by omega)
theorem l1In_eq (x lo hi : Int) : spec_l1In.f x lo hi = some (decide (lo ≤ x ∧ x ≤ hi)) := by
  unfold spec_l1In.f
  by_cases h : x ≥ lo
  · rw [if_pos h]; have h' : lo ≤ x := h; simp [h']
  · rw [if_neg h]; have h' : ¬ lo ≤ x := h; simp [h']
theorem from_eq (x lo hi : Int) : impl_from.f x lo hi = some (decide (lo ≤ x ∧ x ≤ hi)) := by
  unfold impl_from.f
  by_cases h : x ≥ lo
  · rw [if_pos h]; have h' : lo ≤ x := h; simp [h']
  · rw [if_neg h]; have h' : ¬ lo ≤ x := h; simp [h']
theorem isWord_eq (x : Int) : impl_isWord.f x = some (decide (0 ≤ x ∧ x ≤ 65535)) := by
  unfold impl_isWord.f; rw [from_eq]; rfl
theorem isCell_eq (x : Int) : impl_isCell.f x = some (decide (0 ≤ x ∧ x ≤ 23)) := by
  unfold impl_isCell.f; rw [from_eq]; rfl
theorem l1Words_eq (l : List Int) (n : Int) (hl : l.length ≤ 2097152) (k : Nat) (hk : l.length < k) : spec_l1Words.f k l n = some (wordsB l n) := by
  unfold spec_l1Words.f
  refine for_all (L := fun k i => spec_l1Words.l0 k l n (i : Int)) (n := l.length) (fun j => 0 ≤ rd l (j : Int) ∧ rd l (j : Int) ≤ 65535) ?_ ?_ (decide ((l.length : Int) = n)) ?_ ?_ k hk
  · intro k i hi hp
    simp only [spec_l1Words.l0]
    rw [if_pos (by omega), if_pos (by omega), l1In_eq, decide_eq_true hp, Option.bind_some, if_pos rfl, wrap_succ (by omega)]
  · intro k i hi hp
    simp only [spec_l1Words.l0]
    rw [if_pos (by omega), if_pos (by omega), l1In_eq, decide_eq_false hp, Option.bind_some, if_neg (by simp)]
  · intro k
    simp only [spec_l1Words.l0]
    rw [if_neg (by omega)]; rfl
  · unfold wordsB
    rw [Bool.and_eq_true, List.all_eq_true]
    constructor
    · rintro ⟨h1, h2⟩; exact ⟨fun j hj => of_decide_eq_true (h2 _ (rd_mem l j hj)), h1⟩
    · rintro ⟨h1, h2⟩; refine ⟨h2, fun x hx => ?_⟩
      obtain ⟨j, hj, rfl⟩ := List.getElem_of_mem hx
      have := h1 j hj; rw [rd_nat l j hj] at this; exact decide_eq_true this
theorem wordsOk_eq (l : List Int) (n : Int) (hl : l.length ≤ 2097152) (k : Nat) (hk : l.length < k) : impl_wordsOk.f k l n = some (wordsB l n) := by
  unfold impl_wordsOk.f
  by_cases h : (l.length : Int) = n
  · rw [if_pos h]
    unfold slices_ContainsFunc_at_impl_wordsOk_1.f slices_IndexFunc_at_impl_wordsOk_1.f
    have hf : ∀ x, impl_wordsOk_1.f x = some (!decide (0 ≤ x ∧ x ≤ 65535)) := fun x => by unfold impl_wordsOk_1.f; rw [isWord_eq]; rfl
    have hs : ∀ k i, i < l.length → ¬ ¬ (0 ≤ rd l (i : Int) ∧ rd l (i : Int) ≤ 65535) → slices_IndexFunc_at_impl_wordsOk_1.l0 (k + 1) l (l.length : Int) (i : Int) = slices_IndexFunc_at_impl_wordsOk_1.l0 k l (l.length : Int) ((i + 1 : Nat) : Int) := by
      intro k i hi hp
      simp only [slices_IndexFunc_at_impl_wordsOk_1.l0]
      rw [if_pos (by omega), if_pos (by omega), if_pos (by omega), hf, decide_eq_true (Classical.not_not.1 hp), Option.bind_some, if_neg (by simp), wrap_succ (by omega)]
    have hb : ∀ k i, i < l.length → ¬ (0 ≤ rd l (i : Int) ∧ rd l (i : Int) ≤ 65535) → slices_IndexFunc_at_impl_wordsOk_1.l0 (k + 1) l (l.length : Int) (i : Int) = some (i : Int) := by
      intro k i hi hp
      simp only [slices_IndexFunc_at_impl_wordsOk_1.l0]
      rw [if_pos (by omega), if_pos (by omega), if_pos (by omega), hf, decide_eq_false hp, Option.bind_some, if_pos (by simp)]
    have he : ∀ k, slices_IndexFunc_at_impl_wordsOk_1.l0 (k + 1) l (l.length : Int) (l.length : Int) = some (-1) := by
      intro k
      simp only [slices_IndexFunc_at_impl_wordsOk_1.l0]
      rw [if_neg (by omega)]
    rcases for_find l.length (fun k i => slices_IndexFunc_at_impl_wordsOk_1.l0 k l (l.length : Int) (i : Int)) (fun j => ¬ (0 ≤ rd l (j : Int) ∧ rd l (j : Int) ≤ 65535)) (fun j => (j : Int)) (-1) hs hb he k 0 (Nat.zero_le _) (by omega) with ⟨j, _, h2, h3, _, h5⟩ | ⟨h1, h2⟩
    · have h5' : slices_IndexFunc_at_impl_wordsOk_1.l0 k l (l.length : Int) 0 = some (j : Int) := h5
      rw [h5']
      simp only [Option.bind_some]; congr 1; symm
      rw [decide_eq_true (by omega : (j : Int) ≥ 0), Bool.not_true, wordsB, Bool.and_eq_false_iff]; right
      rw [Bool.eq_false_iff]; intro hh
      exact h3 (of_decide_eq_true (List.all_eq_true.1 hh _ (rd_mem l j h2)))
    · have h2' : slices_IndexFunc_at_impl_wordsOk_1.l0 k l (l.length : Int) 0 = some (-1) := h2
      rw [h2']
      simp only [Option.bind_some]; congr 1; symm
      rw [decide_eq_false (by omega : ¬ (-1 : Int) ≥ 0), Bool.not_false, wordsB, decide_eq_true h, Bool.true_and, List.all_eq_true]
      intro x hx
      obtain ⟨j, hj, rfl⟩ := List.getElem_of_mem hx
      have := Classical.not_not.1 (h1 j (Nat.zero_le _) hj); rw [rd_nat l j hj] at this; exact decide_eq_true this
  · rw [if_neg h, wordsB, decide_eq_false h, Bool.false_and]
theorem memOk_eq (l : List Int) (hl : l.length ≤ 2097152) (k : Nat) (hk : l.length < k) : impl_memOk.f k l = some (wordsB l 24) := by
  unfold impl_memOk.f; rw [wordsOk_eq l 24 hl k hk]; rfl
theorem insOkB_bounds {o r a b n : Int} (h : insOkB o r a b n = true) : 1 ≤ o ∧ o ≤ 10 ∧ 0 ≤ r ∧ r ≤ 3 ∧ 0 ≤ a ∧ a ≤ 3 ∧ 0 ≤ b ∧ b ≤ 3 ∧ 0 ≤ n ∧ n ≤ 63 := by
  unfold insOkB at h
  simp only [Bool.and_eq_true, decide_eq_true_eq] at h
  obtain ⟨h0, ⟨h1, h1'⟩, ⟨h2, h2'⟩, ⟨h3, h3'⟩, ⟨h4, h4'⟩⟩ := h
  refine ⟨?_, ?_, h1, h1', h2, h2', h3, h3', h4, h4'⟩
  · by_cases c : 1 ≤ o
    · exact c
    · exfalso
      rw [if_neg (by omega), if_neg (by omega), if_neg (by omega), if_neg (by omega), if_neg (by omega), if_neg (by omega), if_neg (by omega), if_neg (by omega), if_neg (by omega), if_neg (by omega)] at h0
      cases h0
  · by_cases c : o ≤ 10
    · exact c
    · exfalso
      rw [if_neg (by omega), if_neg (by omega), if_neg (by omega), if_neg (by omega), if_neg (by omega), if_neg (by omega), if_neg (by omega), if_neg (by omega), if_neg (by omega), if_neg (by omega)] at h0
      cases h0
theorem ite_some (b c : Bool) : (if b = true then some c else some false) = some (b && c) := by cases b <;> rfl
theorem l8Field_eq (x m : Int) (h : Bool) : spec_l8Field.f x m h = some (decide (0 ≤ x ∧ x ≤ m) && (h || decide (x = 0))) := by
  unfold spec_l8Field.f
  rw [l1In_eq, Option.bind_some]
  have e : (x == 0) = decide (x = 0) := rfl
  rw [e]
  cases h <;> simp only [if_true, Bool.false_eq_true, if_false, Bool.true_or, Bool.false_or, ite_some]
theorem specInsOk_eq (o r a b n : Int) : spec_InsOk.f o r a b n = some (insOkB o r a b n) := by
  unfold spec_InsOk.f spec_l8Has.f
  simp only [l1In_eq, l8Field_eq, Option.bind_some, ite_some]
  by_cases ho : 1 ≤ o ∧ o ≤ 10
  · have hc : o = 1 ∨ o = 2 ∨ o = 3 ∨ o = 4 ∨ o = 5 ∨ o = 6 ∨ o = 7 ∨ o = 8 ∨ o = 9 ∨ o = 10 := by omega
    rw [decide_eq_true ho]
    rcases hc with rfl | rfl | rfl | rfl | rfl | rfl | rfl | rfl | rfl | rfl <;>
      (simp only [if_true, Option.bind_some, List.length_cons, List.length_nil]
       rw [if_pos (by omega), if_pos (by omega)]
       simp only [rd, Option.bind_some, Bool.true_and]
       congr 1
       rw [Bool.eq_iff_iff]
       simp [insOkB, show Go.bits .and .i64 0 1 = 0 by decide, show Go.bits .and .i64 0 2 = 0 by decide, show Go.bits .and .i64 0 4 = 0 by decide, show Go.bits .and .i64 0 8 = 0 by decide,
        show Go.bits .and .i64 7 1 = 1 by decide, show Go.bits .and .i64 7 2 = 2 by decide, show Go.bits .and .i64 7 4 = 4 by decide, show Go.bits .and .i64 7 8 = 0 by decide,
        show Go.bits .and .i64 8 1 = 0 by decide, show Go.bits .and .i64 8 2 = 0 by decide, show Go.bits .and .i64 8 4 = 0 by decide, show Go.bits .and .i64 8 8 = 8 by decide,
        show Go.bits .and .i64 9 1 = 1 by decide, show Go.bits .and .i64 9 2 = 0 by decide, show Go.bits .and .i64 9 4 = 0 by decide, show Go.bits .and .i64 9 8 = 8 by decide,
        show Go.bits .and .i64 10 1 = 0 by decide, show Go.bits .and .i64 10 2 = 2 by decide, show Go.bits .and .i64 10 4 = 0 by decide, show Go.bits .and .i64 10 8 = 8 by decide,
        show Go.bits .and .i64 11 1 = 1 by decide, show Go.bits .and .i64 11 2 = 2 by decide, show Go.bits .and .i64 11 4 = 0 by decide, show Go.bits .and .i64 11 8 = 8 by decide,
        show Go.bits .and .i64 14 1 = 0 by decide, show Go.bits .and .i64 14 2 = 2 by decide, show Go.bits .and .i64 14 4 = 4 by decide, show Go.bits .and .i64 14 8 = 8 by decide,
        show Go.bits .and .i64 15 1 = 1 by decide, show Go.bits .and .i64 15 2 = 2 by decide, show Go.bits .and .i64 15 4 = 4 by decide, show Go.bits .and .i64 15 8 = 8 by decide]
       try omega)
  · have hn : ∀ c, 1 ≤ c → c ≤ 10 → o ≠ c := fun c h1 h2 e => ho (by omega)
    simp [ho, insOkB, hn]
theorem and_range (x : Int) (m : Nat) (hm : m < 2 ^ 62) : 0 ≤ Go.bits .and .i64 x (m : Int) ∧ Go.bits .and .i64 x (m : Int) ≤ (m : Int) := by
  have h : (BitVec.ofInt 64 x &&& BitVec.ofInt 64 (m : Int)).toNat ≤ m := by
    rw [BitVec.toNat_and]
    refine Nat.le_trans Nat.and_le_right ?_
    rw [BitVec.ofInt_natCast, BitVec.toNat_ofNat]
    exact Nat.mod_le _ _
  have e : Go.bits .and .i64 x (m : Int) = (((BitVec.ofInt 64 x &&& BitVec.ofInt 64 (m : Int)).toNat : Nat) : Int) := by
    show IntKind.i64.wrap (((BitVec.ofInt 64 x &&& BitVec.ofInt 64 (m : Int)).toNat : Nat) : Int) = _
    exact wraps_i64 _ (by omega) (by omega)
  rw [e]; omega
/-- Where a cursor may stand. -/
def curOk (c : List Int) (i : Int) : Prop := c.length ≤ 1048576 ∧ 0 ≤ i ∧ i ≤ (c.length : Int)
theorem l1New_ex (c : List Int) (hc : c.length ≤ 1048576) (k : Nat) (hk : 4010 < k) : ∃ i s, spec_l1New.f k c = some (c, i, s) ∧ curOk c i := by
  unfold spec_l1New.f
  have h : ∀ (k j : Nat) (s : Int), j ≤ 4000 → 4000 < j + k → ∃ i s', spec_l1New.l0 k c s (j : Int) = some (c, i, s') ∧ curOk c i := by
    intro k
    induction k with
    | zero => intro j s h1 h2; omega
    | succ k ih =>
      intro j s h1 h2
      rw [spec_l1New.l0]
      by_cases h : (j : Int) < (c.length : Int)
      · rw [if_pos h]
        by_cases h' : (j : Int) < 4000
        · rw [if_pos h', if_pos (by omega), wrap_succ (by omega)]; exact ih _ _ (by omega) (by omega)
        · rw [if_neg h']; exact ⟨_, _, rfl, hc, by omega, by omega⟩
      · rw [if_neg h]; exact ⟨_, _, rfl, hc, by omega, by omega⟩
  exact h k 0 _ (by omega) (by omega)
theorem l1Byte_ex (c : List Int) (i s : Int) (h : curOk c i) : ∃ b i' s', spec_l1Byte.f c i s = some (b, i', s') ∧ 0 ≤ b ∧ b ≤ 255 ∧ curOk c i' := by
  unfold spec_l1Byte.f
  obtain ⟨h1, h2, h3⟩ := h
  by_cases hl : i < (c.length : Int)
  · rw [if_pos hl, if_pos h2]
    have hr := fun x => and_range x 255 (by decide)
    exact ⟨_, _, _, rfl, (hr _).1, (hr _).2, h1, by unfold wrap64; omega, by unfold wrap64; omega⟩
  · rw [if_neg hl]
    have hr := fun x => and_range x 255 (by decide)
    exact ⟨_, _, _, rfl, (hr _).1, (hr _).2, h1, h2, h3⟩
theorem l1Below_ex (c : List Int) (i s : Int) (h : curOk c i) (n : Int) (hn : 0 < n) (hb : n ≤ 4294967296) : ∃ v i' s', spec_l1Below.f c i s n = some (v, i', s') ∧ 0 ≤ v ∧ v < n ∧ curOk c i' := by
  unfold spec_l1Below.f
  rw [if_neg (by omega)]
  by_cases hs : n ≤ 256
  · obtain ⟨b, i1, s1, e, h0, h1, hc⟩ := l1Byte_ex c i s h
    rw [if_pos hs, e, Option.bind_some, if_neg (by omega)]
    exact ⟨_, _, _, rfl, Int.tmod_nonneg _ h0, Int.tmod_lt_of_pos _ hn, hc⟩
  · obtain ⟨b1, i1, s1, e1, p1, q1, c1⟩ := l1Byte_ex c i s h
    obtain ⟨b2, i2, s2, e2, p2, q2, c2⟩ := l1Byte_ex c i1 s1 c1
    obtain ⟨b3, i3, s3, e3, p3, q3, c3⟩ := l1Byte_ex c i2 s2 c2
    obtain ⟨b4, i4, s4, e4, p4, q4, c4⟩ := l1Byte_ex c i3 s3 c3
    rw [if_neg hs]
    simp only [e1, e2, e3, e4, Option.bind_some]
    rw [if_neg (by omega)]
    exact ⟨_, _, _, rfl, Int.tmod_nonneg _ (by unfold wrap64; omega), Int.tmod_lt_of_pos _ hn, c4⟩
theorem l1Once_ex (c : List Int) (i s : Int) (h : curOk c i) (n : Int) (hn : 0 < n) (hb : n ≤ 4294967296) : ∃ v i' s', spec_l1Once.f c i s n = some (v, i', s') ∧ curOk c i' := by
  unfold spec_l1Once.f
  obtain ⟨v, i1, s1, e, _, _, hc⟩ := l1Below_ex c i s h n hn hb
  rw [e, Option.bind_some]
  exact ⟨_, _, _, rfl, hc⟩
theorem l1PickInt_ex (c : List Int) (i s : Int) (h : curOk c i) (l : List Int) (h0 : 0 < l.length) (h1 : l.length ≤ 1000) : ∃ v i' s', spec_l1PickInt.f c i s l = some (v, i', s') ∧ v ∈ l ∧ curOk c i' := by
  unfold spec_l1PickInt.f
  obtain ⟨v, i1, s1, e, p, q, hc⟩ := l1Below_ex c i s h (l.length : Int) (by omega) (by omega)
  rw [e, Option.bind_some, if_pos p, if_pos q]
  refine ⟨_, _, _, rfl, ?_, hc⟩
  obtain ⟨j, rfl⟩ : ∃ j : Nat, v = (j : Int) := ⟨v.toNat, by omega⟩
  exact rd_mem l j (by omega)
theorem l8Has_ex (o : Int) (h0 : 1 ≤ o) (h1 : o ≤ 10) : ∃ v, spec_l8Has.f o = some v := by
  unfold spec_l8Has.f
  rw [l1In_eq, decide_eq_true ⟨h0, h1⟩, Option.bind_some, if_pos rfl, Option.bind_some, if_pos (by omega), if_pos (by simp; omega)]
  exact ⟨_, rfl⟩
theorem drawIns_j1 (x : Int) (c : List Int) (i s : Int) (h : curOk c i) (o r a b n : Int) (k : Nat) : ∃ o' r' a' b' n' i' s', spec_l8DrawIns.j1 (k + 1) x c i s o r a b n = some (o', r', a', b', n', i', s') ∧ curOk c i' := by
  rw [spec_l8DrawIns.j1]
  obtain ⟨v, i1, s1, e1, _, _, c1⟩ := l1Below_ex c i s h 4 (by omega) (by omega)
  obtain ⟨v2, i2, s2, e2, _, c2⟩ := l1PickInt_ex c i s h [0, 1, 2, 4, 8, 9, 12, 20, 23] (by simp) (by simp)
  obtain ⟨v3, i3, s3, e3, _, c3⟩ := l1PickInt_ex c i1 s1 c1 [0, 1, 2, 4, 8, 9, 12, 20, 23] (by simp) (by simp)
  by_cases h1 : Go.bits .and .i64 x 4 = 0
  · rw [if_pos h1]
    by_cases h2 : Go.bits .and .i64 x 8 = 0
    · rw [if_pos h2]; exact ⟨_, _, _, _, _, _, _, rfl, h⟩
    · rw [if_neg h2, e2, Option.bind_some]; exact ⟨_, _, _, _, _, _, _, rfl, c2⟩
  · rw [if_neg h1, e1, Option.bind_some]
    by_cases h2 : Go.bits .and .i64 x 8 = 0
    · rw [if_pos h2]; exact ⟨_, _, _, _, _, _, _, rfl, c1⟩
    · rw [if_neg h2]
      simp only [e3, Option.bind_some]; exact ⟨_, _, _, _, _, _, _, rfl, c3⟩
theorem drawIns_j0 (x : Int) (c : List Int) (i s : Int) (h : curOk c i) (o r a b n : Int) (k : Nat) : ∃ o' r' a' b' n' i' s', spec_l8DrawIns.j0 (k + 2) x c i s o r a b n = some (o', r', a', b', n', i', s') ∧ curOk c i' := by
  rw [spec_l8DrawIns.j0]
  obtain ⟨v, i1, s1, e1, _, _, c1⟩ := l1Below_ex c i s h 4 (by omega) (by omega)
  by_cases h1 : Go.bits .and .i64 x 2 = 0
  · rw [if_pos h1]; exact drawIns_j1 x c i s h o r a b n k
  · rw [if_neg h1, e1, Option.bind_some]; exact drawIns_j1 x c i1 s1 c1 o r v b n k
theorem drawIns_ex (c : List Int) (i s : Int) (h : curOk c i) (k : Nat) (hk : 2 ≤ k) : ∃ o r a b n i' s', spec_l8DrawIns.f k c i s = some (o, r, a, b, n, i', s') ∧ curOk c i' := by
  obtain ⟨k, rfl⟩ : ∃ m, k = m + 2 := ⟨k - 2, by omega⟩
  unfold spec_l8DrawIns.f
  obtain ⟨o, i1, s1, e1, ho, c1⟩ := l1PickInt_ex c i s h [1, 1, 2, 3, 3, 4, 4, 5, 5, 5, 6, 6, 7, 8, 9, 10] (by simp) (by simp)
  have ho' : 1 ≤ o ∧ o ≤ 10 := by simp at ho; omega
  obtain ⟨x, ex⟩ := l8Has_ex o ho'.1 ho'.2
  rw [e1, Option.bind_some]
  simp only [ex, Option.bind_some]
  by_cases h1 : Go.bits .and .i64 x 1 = 0
  · rw [if_pos h1]; exact drawIns_j0 x c i1 s1 c1 o 0 0 0 0 k
  · obtain ⟨v, i2, s2, e2, _, _, c2⟩ := l1Below_ex c i1 s1 c1 4 (by omega) (by omega)
    rw [if_neg h1, e2, Option.bind_some]; exact drawIns_j0 x c i2 s2 c2 o v 0 0 0 k
theorem l8Has_any (o : Int) : ∃ v, spec_l8Has.f o = some v := by
  by_cases h : 1 ≤ o ∧ o ≤ 10
  · exact l8Has_ex o h.1 h.2
  · unfold spec_l8Has.f
    rw [l1In_eq, decide_eq_false h, Option.bind_some, if_neg (by simp)]
    exact ⟨_, rfl⟩
theorem l8Field_any (x m : Int) (h : Bool) : ∃ v, spec_l8Field.f x m h = some v := by
  unfold spec_l8Field.f
  rw [l1In_eq, Option.bind_some]
  repeat' split
  all_goals exact ⟨_, rfl⟩
theorem specInsOk_any (o r a b n : Int) : ∃ v, spec_InsOk.f o r a b n = some v := by
  unfold spec_InsOk.f
  obtain ⟨v, e⟩ := l8Has_any o
  rw [e, Option.bind_some, l1In_eq, Option.bind_some]
  split
  · obtain ⟨v1, e1⟩ := l8Field_any r 3 ((Go.bits .and .i64 v 1) != 0)
    rw [e1, Option.bind_some]
    split
    · obtain ⟨v2, e2⟩ := l8Field_any a 3 ((Go.bits .and .i64 v 2) != 0)
      rw [e2, Option.bind_some]
      split
      · obtain ⟨v3, e3⟩ := l8Field_any b 3 ((Go.bits .and .i64 v 4) != 0)
        rw [e3, Option.bind_some]
        split
        · obtain ⟨v4, e4⟩ := l8Field_any n 63 ((Go.bits .and .i64 v 8) != 0)
          rw [e4, Option.bind_some]; exact ⟨_, rfl⟩
        · exact ⟨_, rfl⟩
      · exact ⟨_, rfl⟩
    · exact ⟨_, rfl⟩
  · exact ⟨_, rfl⟩
theorem specCode_fn : ∃ cf : Int → Int → Int → Int → Int → Int × Bool, ∀ o r a b n, spec_Code.f o r a b n = some (cf o r a b n) := by
  have h : ∀ o r a b n, ∃ v, spec_Code.f o r a b n = some v := fun o r a b n => by
    unfold spec_Code.f
    obtain ⟨v, e⟩ := specInsOk_any o r a b n
    rw [e, Option.bind_some]
    split <;> exact ⟨_, rfl⟩
  exact ⟨fun o r a b n => (h o r a b n).choose, fun o r a b n => (h o r a b n).choose_spec⟩
theorem drawMem_l1 (c : List Int) (i s : Int) (T : List S66) (hT : T.length = 4) : ∀ (k j : Nat) (m : List Int), m.length = 24 → j ≤ 4 → 4 < j + k → ∃ m', spec_l9DrawMem.l1 k m T (j : Int) c i s = some (m', i, s) ∧ m'.length = 24
  | 0, j, m, _, h1, h2 => by omega
  | k + 1, j, m, hm, h1, h2 => by
    obtain ⟨cf, hcf⟩ := specCode_fn
    rw [spec_l9DrawMem.l1]
    by_cases h : j < 4
    · rw [if_pos (by omega), if_pos (by omega), hcf, Option.bind_some, if_pos (by omega), wrap_succ (by omega)]
      exact drawMem_l1 c i s T hT k (j + 1) _ (by simpa using hm) (by omega) (by omega)
    · rw [if_neg (by omega)]; exact ⟨m, rfl, hm⟩
theorem drawMem_l2 (c : List Int) (i s : Int) (T : List S66) (hT : T.length = 4) : ∀ (k j : Nat) (m : List Int), m.length = 24 → j ≤ 4 → 4 < j + k → ∃ m', spec_l9DrawMem.l2 k m T (j : Int) c i s = some (m', i, s) ∧ m'.length = 24
  | 0, j, m, _, h1, h2 => by omega
  | k + 1, j, m, hm, h1, h2 => by
    obtain ⟨cf, hcf⟩ := specCode_fn
    rw [spec_l9DrawMem.l2]
    by_cases h : j < 4
    · rw [if_pos (by omega), if_pos (by omega), hcf, Option.bind_some, if_pos (by omega), wrap_succ (by omega)]
      exact drawMem_l2 c i s T hT k (j + 1) _ (by simpa using hm) (by omega) (by omega)
    · rw [if_neg (by omega)]; exact ⟨m, rfl, hm⟩
theorem drawMem_l0 (c : List Int) : ∀ (k j : Nat) (m : List Int) (i s : Int), curOk c i → m.length = j → j ≤ 24 → 40 < j + k → ∃ m' i' s', spec_l9DrawMem.l0 k m (j : Int) c i s = some (m', i', s') ∧ m'.length = 24 ∧ curOk c i'
  | 0, j, m, i, s, _, _, h1, h2 => by omega
  | k + 1, j, m, i, s, hc, hm, h1, h2 => by
    obtain ⟨cf, hcf⟩ := specCode_fn
    rw [spec_l9DrawMem.l0]
    by_cases h : j < 24
    · obtain ⟨o, r, a, b, n, i1, s1, e1, c1⟩ := drawIns_ex c i s hc k (by omega)
      rw [if_pos (by omega), e1, Option.bind_some, hcf, Option.bind_some]
      obtain ⟨v2, i2, s2, e2, _, c2⟩ := l1PickInt_ex c i1 s1 c1 [0, 1, 5, 65535] (by simp) (by simp)
      obtain ⟨v3, i3, s3, e3, c3⟩ := l1Once_ex c i1 s1 c1 9 (by omega) (by omega)
      obtain ⟨v4, i4, s4, e4, _, c4⟩ := l1PickInt_ex c i3 s3 c3 [0, 1, 5, 65535] (by simp) (by simp)
      have next : ∀ (x : Int) i s, curOk c i → ∃ m' i' s', (if m.length < 17592186044416 then (spec_l9DrawMem.l0 k (m ++ [x]) (wrap64 ((j : Int) + 1)) c i s) else none) = some (m', i', s') ∧ m'.length = 24 ∧ curOk c i' := by
        intro x i s hc
        rw [if_pos (by omega), wrap_succ (by omega)]
        exact drawMem_l0 c k (j + 1) _ i s hc (by simp; omega) (by omega) (by omega)
      by_cases h15 : (j : Int) > 15
      · rw [if_pos h15]
        simp only [e2, Option.bind_some]; exact next _ _ _ c2
      · rw [if_neg h15]
        simp only [e3, Option.bind_some]
        by_cases hv : v3 = true
        · rw [if_pos hv]
          simp only [e4, Option.bind_some]; exact next _ _ _ c4
        · rw [if_neg hv]; exact next _ _ _ c3
    · obtain ⟨v, i1, s1, e1, _, _, c1⟩ := l1Below_ex c i s hc 4 (by omega) (by omega)
      rw [if_neg (by omega), e1, Option.bind_some]
      by_cases h0 : v = 0
      · obtain ⟨m', e, hl⟩ := drawMem_l1 c i1 s1 [⟨1, 1, 0, 0, 1⟩, ⟨6, 2, 0, 1, 20⟩, ⟨10, 3, 2, 1, 0⟩, ⟨8, 0, 0, 0, 1⟩] rfl k 0 m (by omega) (by omega) (by omega)
        rw [if_pos h0]; exact ⟨_, _, _, e, hl, c1⟩
      · rw [if_neg h0]
        by_cases h1 : v = 1
        · obtain ⟨m', e, hl⟩ := drawMem_l2 c i1 s1 [⟨4, 1, 0, 0, 8⟩, ⟨3, 1, 1, 0, 1⟩, ⟨5, 0, 0, 1, 8⟩, ⟨8, 0, 0, 0, 8⟩] rfl k 0 m (by omega) (by omega) (by omega)
          rw [if_pos h1]; exact ⟨_, _, _, e, hl, c1⟩
        · rw [if_neg h1]; exact ⟨_, _, _, rfl, by omega, c1⟩
theorem drawMem_ex (c : List Int) (i s : Int) (h : curOk c i) (k : Nat) (hk : 40 < k) : ∃ m i' s', spec_l9DrawMem.f k c i s = some (m, i', s') ∧ m.length = 24 ∧ curOk c i' :=
  drawMem_l0 c k 0 [] i s h rfl (by omega) (by omega)
theorem sameInts_same (l : List Int) (hl : l.length ≤ 1048576) (k : Nat) (hk : 1048580 < k) : laws_sameInts.f k l l = some true := by
  unfold laws_sameInts.f
  rw [if_pos rfl]
  refine same_loop (C := 0) (n := l.length) (fun k i => laws_sameInts.l0 k l l (i : Int)) ?_ ?_ k (by omega)
  · intro k i hi _
    simp only [laws_sameInts.l0]
    rw [if_pos (by omega), if_pos (by omega), if_pos (by omega), if_pos trivial, wrap_succ (by omega)]
  · intro k
    simp only [laws_sameInts.l0]
    rw [if_neg (by omega)]
theorem implAddress_eq (n : Int) : impl_address.f n = some (n % 24) := by
  unfold impl_address.f
  have b := tmod_bd n 24 (by omega)
  rw [wrap_small (by omega) (by omega), tmod_up n 24 (by omega) (by omega)]
/-- What a word says. -/
def insOf (w : Int) : Int × Int × Int × Int × Int := (w % 16, w / 16 % 4, w / 64 % 4, w / 256 % 4, w / 1024)
def decodeB (w : Int) : Bool := decide (0 ≤ w ∧ w ≤ 65535) && insOkB (w % 16) (w / 16 % 4) (w / 64 % 4) (w / 256 % 4) (w / 1024)
def decodeV (w : Int) : Int × Int × Int × Int × Int × Bool := if decodeB w = true then (w % 16, w / 16 % 4, w / 64 % 4, w / 256 % 4, w / 1024, true) else (0, 0, 0, 0, 0, false)
theorem implDecode_eq (w : Int) : impl_Decode.f w = some (decodeV w) := by
  unfold impl_Decode.f decodeV decodeB impl_InsOk.f
  rw [isWord_eq, Option.bind_some]
  by_cases h : 0 ≤ w ∧ w ≤ 65535
  · rw [decide_eq_true h, if_pos rfl, Bool.true_and]
    have e1 : Int.tmod w 16 = w % 16 := tmod_pos _ _ h.1
    have e2 : Int.tmod (wrap64 (Int.tdiv w 16)) 4 = w / 16 % 4 := by rw [tdiv_pos _ _ h.1, wrap_small (by omega) (by omega), tmod_pos _ _ (by omega)]
    have e3 : Int.tmod (wrap64 (Int.tdiv w 64)) 4 = w / 64 % 4 := by rw [tdiv_pos _ _ h.1, wrap_small (by omega) (by omega), tmod_pos _ _ (by omega)]
    have e4 : Int.tmod (wrap64 (Int.tdiv w 256)) 4 = w / 256 % 4 := by rw [tdiv_pos _ _ h.1, wrap_small (by omega) (by omega), tmod_pos _ _ (by omega)]
    have e5 : wrap64 (Int.tdiv w 1024) = w / 1024 := by rw [tdiv_pos _ _ h.1, wrap_small (by omega) (by omega)]
    rw [e1, e2, e3, e4, e5, Option.bind_some]
    by_cases c : insOkB (w % 16) (w / 16 % 4) (w / 64 % 4) (w / 256 % 4) (w / 1024) = true
    · rw [if_pos c, if_pos c]
    · rw [if_neg c, if_neg c]
  · rw [decide_eq_false h, if_neg (by simp), Bool.false_and, if_neg (by simp)]
theorem sort1 (a : Int) : slices_Sort_int_int.f [a] = some [a] := by
  unfold slices_Sort_int_int.f; rw [if_pos (by simp)]; simp
theorem sort2 (a b : Int) : slices_Sort_int_int.f [a, b] = some (if a ≤ b then [a, b] else [b, a]) := by
  unfold slices_Sort_int_int.f; rw [if_pos (by simp)]
  congr 1
  have e : List.mergeSort [a, b] (fun x y => decide (x ≤ y)) = List.merge [a] [b] (fun x y => decide (x ≤ y)) := by
    rw [List.mergeSort]; simp [List.MergeSort.Internal.splitInTwo]
  rw [e]
  by_cases h : a ≤ b
  · simp [List.merge, h]
  · simp [List.merge, h]
theorem compact1 (a : Int) : slices_Compact_int_int.f [a] = some [a] := by
  unfold slices_Compact_int_int.f; rw [if_pos (by simp)]; rfl
theorem compact2 (a b : Int) : slices_Compact_int_int.f [a, b] = some (if a = b then [a] else [a, b]) := by
  unfold slices_Compact_int_int.f; rw [if_pos (by simp)]
  congr 1
  by_cases h : a = b
  · subst h; simp [Go.Lib.compact, Go.Lib.compactUpTo, Go.Lib.keeps, show List.range 2 = [0, 1] from rfl, List.filter]
  · simp [Go.Lib.compact, Go.Lib.compactUpTo, Go.Lib.keeps, h, show List.range 2 = [0, 1] from rfl, List.filter, show (decide (b = a)) = false from decide_eq_false (fun q => h q.symm)]
theorem addr_eq (x : Int) : impl_address.f x = some (x % 24) := by
  unfold impl_address.f
  have hb := tmod_bd x 24 (by omega)
  rw [wrap_small (by omega) (by omega), tmod_up x 24 (by omega) (by omega)]
theorem l9_eq (x : Int) : spec_l9Address.f x = some (x % 24) := by
  unfold spec_l9Address.f
  have hb := tmod_bd x 24 (by omega)
  have hu := tmod_up x 24 (by omega) (by omega)
  generalize x.tmod 24 = t at hb hu ⊢
  rw [← hu]
  by_cases c : t < 0
  · rw [if_pos c, wrap_small (by omega) (by omega), tmod_pos _ _ (by omega), Int.emod_eq_of_lt (by omega) (by omega)]
  · rw [if_neg c, tmod_pos _ _ (by omega), Int.add_emod_right, Int.emod_eq_of_lt (by omega) (by omega)]
theorem dec_same (w : Int) : spec_Decode.f w = impl_Decode.f w := by
  unfold spec_Decode.f impl_Decode.f
  rw [isWord_eq, l1In_eq, Option.bind_some, Option.bind_some, specInsOk_eq]
  rfl
def nextOf (pc : Int) (d : Int × Int × Int × Int × Int × Bool) : List Int := if d.2.2.2.2.2 = true ∧ d.1 ≠ 9 then (if d.1 = 8 then [d.2.2.2.2.1 % 24] else if d.1 = 7 then (if d.2.2.2.2.1 % 24 = (pc + 1) % 24 then [(pc + 1) % 24] else if d.2.2.2.2.1 % 24 < (pc + 1) % 24 then [d.2.2.2.2.1 % 24, (pc + 1) % 24] else [(pc + 1) % 24, d.2.2.2.2.1 % 24]) else [(pc + 1) % 24]) else []
def nx (m : List Int) (pc : Int) : List Int := if wordsB m 24 = true ∧ (0 ≤ pc ∧ pc ≤ 23) then nextOf pc ((impl_Decode.f (rd m pc)).getD (0, 0, 0, 0, 0, false)) else []
theorem nx_cell (m : List Int) (pc : Int) : ∀ y ∈ nx m pc, 0 ≤ y ∧ y < 24 := by
  unfold nx nextOf
  intro y hy
  repeat' split at hy
  all_goals (simp only [List.mem_cons, List.mem_nil_iff, or_false, List.not_mem_nil] at hy)
  all_goals (first | (subst hy; omega) | (rcases hy with rfl | rfl <;> omega))
theorem next_eq (m : List Int) (pc : Int) (hl : m.length ≤ 1048576) (k : Nat) (hk : 2000000 < k) : impl_NextOf.f k m pc = some (nx m pc) ∧ spec_NextOf.f k m pc = some (nx m pc) ∧ (nx m pc).length ≤ 2 := by
  obtain ⟨k, rfl⟩ : ∃ q, k = q + 3 := ⟨k - 3, by omega⟩
  unfold impl_NextOf.f spec_NextOf.f
  rw [memOk_eq m (by omega) _ (by omega), l1Words_eq m 24 (by omega) _ (by omega), Option.bind_some, Option.bind_some]
  by_cases hw : wordsB m 24 = true
  · rw [if_pos hw, if_pos hw, isCell_eq, l1In_eq, Option.bind_some, Option.bind_some]
    by_cases hc : 0 ≤ pc ∧ pc ≤ 23
    · have l24 := wordsB_24 hw
      obtain ⟨d, hd⟩ : ∃ d, impl_Decode.f (rd m pc) = some d := by
        unfold impl_Decode.f
        rw [isWord_eq, Option.bind_some]
        split
        · unfold impl_InsOk.f
          rw [Option.bind_some]
          split
          · exact ⟨_, rfl⟩
          · exact ⟨_, rfl⟩
        · exact ⟨_, rfl⟩
      obtain ⟨d0, d1, d2, d3, d4, d5⟩ := d
      rw [decide_eq_true hc, Bool.not_true]
      have ex : nx m pc = nextOf pc (d0, d1, d2, d3, d4, d5) := by unfold nx; rw [if_pos ⟨hw, hc⟩, hd]; rfl
      rw [ex]
      refine ⟨?_, ?_, ?_⟩
      · rw [impl_NextOf.j0, if_neg (by simp), if_pos hc.1, if_pos (by omega), hd, Option.bind_some]
        unfold nextOf
        dsimp only
        by_cases h5 : d5 = true
        · rw [if_pos h5, impl_NextOf.j1]
          by_cases h9 : d0 = 9
          · rw [if_pos (by simp [h9]), if_neg (fun q => q.2 h9)]
          · rw [if_neg (by simp [h9]), if_pos (show d5 = true ∧ d0 ≠ 9 from ⟨h5, h9⟩), wrap_small (x := pc + 1) (by omega) (by omega), addr_eq, addr_eq]
            simp only [Option.bind_some]
            by_cases h8 : d0 = 8
            · rw [if_pos h8, if_pos h8]
            · rw [if_neg h8, if_neg h8]
              by_cases h7 : d0 = 7
              · rw [if_pos h7, if_pos h7, if_pos (by simp), List.singleton_append, sort2, Option.bind_some]
                by_cases c : (pc + 1) % 24 ≤ d4 % 24
                · rw [if_pos c, compact2, Option.bind_some]
                  by_cases e : (pc + 1) % 24 = d4 % 24
                  · rw [if_pos e, if_pos e.symm]
                  · rw [if_neg e, if_neg (fun q => e q.symm), if_neg (by omega)]
                · rw [if_neg c, compact2, Option.bind_some, if_neg (by omega), if_neg (by omega), if_pos (by omega)]
              · rw [if_neg h7, if_neg h7, sort1, Option.bind_some, compact1]; rfl
        · rw [if_neg h5, if_neg (fun q => h5 q.1), impl_NextOf.j1, if_pos rfl]
      · rw [spec_NextOf.j0, if_neg (by simp), if_pos hc.1, if_pos (by omega), dec_same, hd, Option.bind_some]
        dsimp only
        rw [wrap_small (x := pc + 1) (by omega) (by omega), l9_eq, Option.bind_some, l9_eq, Option.bind_some]
        unfold nextOf
        dsimp only
        by_cases h5 : d5 = true
        · rw [if_pos h5, spec_NextOf.j1]
          by_cases h9 : d0 = 9
          · rw [if_pos (by simp [h9]), if_neg (fun q => q.2 h9)]
          · rw [if_neg (by simp [h9]), if_pos (show d5 = true ∧ d0 ≠ 9 from ⟨h5, h9⟩)]
            by_cases h8 : d0 = 8
            · rw [if_pos h8, if_pos h8]
            · rw [if_neg h8, if_neg h8]
              by_cases h7 : d0 = 7
              · rw [if_pos h7, if_pos h7, spec_NextOf.j2]
                by_cases e : d4 % 24 = (pc + 1) % 24
                · rw [if_pos (by simp [e]), if_pos e]
                · rw [if_neg (by simp [e]), if_neg e]
                  split <;> rfl
              · rw [if_neg h7, if_neg h7, spec_NextOf.j2, if_pos rfl]
        · rw [if_neg h5, if_neg (fun q => h5 q.1), spec_NextOf.j1, if_pos rfl]
      · unfold nextOf
        repeat' split
        all_goals simp
    · rw [decide_eq_false hc, Bool.not_false, impl_NextOf.j0, if_pos rfl, spec_NextOf.j0, if_pos rfl]
      have ex : nx m pc = [] := by unfold nx; rw [if_neg (fun q => hc q.2)]
      rw [ex]; exact ⟨rfl, rfl, by simp⟩
  · rw [if_neg hw, if_neg hw, impl_NextOf.j0, if_pos rfl, spec_NextOf.j0, if_pos rfl]
    have ex : nx m pc = [] := by unfold nx; rw [if_neg (fun q => hw q.1)]
    rw [ex]; exact ⟨rfl, rfl, by simp⟩
theorem next_ex (m : List Int) (pc : Int) (hl : m.length ≤ 1048576) (k : Nat) (hk : 2000000 < k) : ∃ v, impl_NextOf.f k m pc = some v ∧ spec_NextOf.f k m pc = some v ∧ v.length ≤ 2 := ⟨_, next_eq m pc hl k hk⟩
theorem nodup_bound : ∀ (n : Nat) (l : List Int), l.Nodup → (∀ x ∈ l, 0 ≤ x ∧ x < n) → l.length ≤ n
  | 0, l, _, h => by
    match l with
    | [] => simp
    | a :: _ => have := h a (by simp); omega
  | n + 1, l, d, h => by
    have ih := nodup_bound n (l.erase (n : Int)) (d.erase _) (fun x hx => by
      have := (d.mem_erase_iff).1 hx
      have h2 := h x this.2
      omega)
    by_cases c : (n : Int) ∈ l
    · rw [List.length_erase_of_mem c] at ih; omega
    · rw [List.erase_of_not_mem c] at ih; omega
theorem same_sorted {l1 l2 : List Int} (d1 : l1.Nodup) (d2 : l2.Nodup) (h : ∀ x, x ∈ l1 ↔ x ∈ l2) (s2 : l2.Pairwise fun x y => x ≤ y) : l1.mergeSort (fun x y => decide (x ≤ y)) = l2 := by
  have p1 := List.mergeSort_perm l1 (fun x y => decide (x ≤ y))
  have p2 : l1.Perm l2 := (List.perm_ext_iff_of_nodup d1 d2).2 h
  have s1 := List.pairwise_mergeSort (le := fun (x y : Int) => decide (x ≤ y)) (by intro a b c; simp; omega) (by intro a b; simp; omega) l1
  exact (p1.trans p2).eq_of_pairwise (le := fun x y => x ≤ y) (fun a b _ _ h1 h2 => by omega) (s1.imp (fun h => by simpa using h)) s2
inductive Rc (nx : Int → List Int) (S : List Int) : Int → Prop
  | here {x} : x ∈ S → Rc nx S x
  | step {x y} : Rc nx S x → y ∈ nx x → Rc nx S y
theorem Rc.closed {nx : Int → List Int} {S : List Int} {P : Int → Prop} (h0 : ∀ x ∈ S, P x) (h1 : ∀ x, P x → ∀ y ∈ nx x, P y) : ∀ x, Rc nx S x → P x := fun x h => by
  induction h with
  | here h => exact h0 _ h
  | step _ h ih => exact h1 _ ih _ h
def addOne (o : List Int) (n : Int) : List Int := if n ∈ o then o else o ++ [n]
/-- What is gathered: own cells, no two alike, all come to. -/
structure Ga (nx : Int → List Int) (S : List Int) (o : List Int) : Prop where
  nd : o.Nodup
  cell : ∀ x ∈ o, 0 ≤ x ∧ x < 24
  rc : ∀ x ∈ o, Rc nx S x
theorem Ga.one {nx S o n} (h : Ga nx S o) (hc : 0 ≤ n ∧ n < 24) (hr : Rc nx S n) : Ga nx S (addOne o n) ∧ n ∈ addOne o n ∧ o <+: addOne o n := by
  unfold addOne
  by_cases c : n ∈ o
  · rw [if_pos c]; exact ⟨h, c, List.prefix_refl _⟩
  · rw [if_neg c]
    refine ⟨⟨List.nodup_append.2 ⟨h.nd, by simp, fun a ha b hb q => ?_⟩, fun x hx => ?_, fun x hx => ?_⟩, by simp, List.prefix_append _ _⟩
    · rw [List.mem_singleton] at hb; subst hb; subst q; exact c ha
    · rcases List.mem_append.1 hx with h1 | h1
      · exact h.cell x h1
      · rw [List.mem_singleton] at h1; subst h1; exact hc
    · rcases List.mem_append.1 hx with h1 | h1
      · exact h.rc x h1
      · rw [List.mem_singleton] at h1; subst h1; exact hr
theorem Ga.all {nx S} : ∀ (l o : List Int), Ga nx S o → (∀ n ∈ l, 0 ≤ n ∧ n < 24) → (∀ n ∈ l, Rc nx S n) → Ga nx S (l.foldl addOne o) ∧ (∀ n ∈ l, n ∈ l.foldl addOne o) ∧ o <+: l.foldl addOne o
  | [], o, h, _, _ => ⟨h, by simp, List.prefix_refl _⟩
  | n :: l, o, h, hc, hr => by
    obtain ⟨h1, h2, h3⟩ := h.one (hc n (by simp)) (hr n (by simp))
    obtain ⟨h4, h5, h6⟩ := Ga.all l (addOne o n) h1 (fun x hx => hc x (by simp [hx])) (fun x hx => hr x (by simp [hx]))
    rw [List.foldl_cons]
    refine ⟨h4, fun x hx => ?_, h3.trans h6⟩
    rcases List.mem_cons.1 hx with rfl | h7
    · exact h6.subset h2
    · exact h5 x h7
/-- What is marked, and what is still to do. -/
structure Mk (nx : Int → List Int) (S : List Int) (seen : List Bool) (todo : List Int) : Prop where
  len : seen.length = 24
  cell : ∀ x ∈ todo, 0 ≤ x ∧ x < 24
  rct : ∀ x ∈ todo, Rc nx S x
  rcs : ∀ i : Nat, seen.getD i false = true → Rc nx S i
  src : ∀ x ∈ S, x ∈ todo ∨ seen.getD x.toNat false = true
  cl : ∀ i : Nat, seen.getD i false = true → ∀ y ∈ nx i, y ∈ todo ∨ seen.getD y.toNat false = true
theorem Mk.skip {nx S seen x todo} (h : Mk nx S seen (x :: todo)) (hs : seen.getD x.toNat false = true) : Mk nx S seen todo :=
  ⟨h.len, fun y hy => h.cell y (by simp [hy]), fun y hy => h.rct y (by simp [hy]), h.rcs, fun y hy => (h.src y hy).elim (fun q => (List.mem_cons.1 q).elim (fun q => by subst q; exact .inr hs) .inl) .inr, fun i hi y hy => (h.cl i hi y hy).elim (fun q => (List.mem_cons.1 q).elim (fun q => by subst q; exact .inr hs) .inl) .inr⟩
theorem getD_set_self {l : List Bool} {i : Nat} {b : Bool} (h : i < l.length) : (l.set i b).getD i false = b := by simp [List.getD, h]
theorem getD_set_ne {l : List Bool} {i j : Nat} {b : Bool} (h : i ≠ j) : (l.set i b).getD j false = l.getD j false := by simp [List.getD, h]
theorem Mk.mark {nx S seen x todo} (h : Mk nx S seen (x :: todo)) (hc : ∀ y ∈ nx x, 0 ≤ y ∧ y < 24) : Mk nx S (seen.set x.toNat true) (todo ++ nx x) := by
  have hx := h.cell x (by simp)
  have hl := h.len
  have hr := h.rct x (by simp)
  have hin : ∀ j : Nat, seen.getD j false = true → (seen.set x.toNat true).getD j false = true := fun j hj => by
    by_cases c : x.toNat = j
    · subst c; exact getD_set_self (by omega)
    · rw [getD_set_ne c]; exact hj
  have hout : ∀ j : Nat, (seen.set x.toNat true).getD j false = true → j = x.toNat ∨ seen.getD j false = true := fun j hj => by
    by_cases c : x.toNat = j
    · exact .inl c.symm
    · rw [getD_set_ne c] at hj; exact .inr hj
  have hmv : ∀ y, (y ∈ x :: todo ∨ seen.getD y.toNat false = true) → (y ∈ todo ++ nx x ∨ (seen.set x.toNat true).getD y.toNat false = true) := fun y hy => by
    rcases hy with hy | hy
    · rcases List.mem_cons.1 hy with rfl | hy
      · exact .inr (getD_set_self (by omega))
      · exact .inl (List.mem_append.2 (.inl hy))
    · exact .inr (hin _ hy)
  refine ⟨by rw [List.length_set, hl], fun y hy => ?_, fun y hy => ?_, fun i hi => ?_, fun y hy => hmv y (h.src y hy), fun i hi y hy => ?_⟩
  · rcases List.mem_append.1 hy with hy | hy
    · exact h.cell y (by simp [hy])
    · exact hc y hy
  · rcases List.mem_append.1 hy with hy | hy
    · exact h.rct y (by simp [hy])
    · exact hr.step hy
  · rcases hout i hi with hi | hi
    · subst hi; rw [Int.toNat_of_nonneg hx.1]; exact hr
    · exact h.rcs i hi
  · rcases hout i hi with hi | hi
    · subst hi; rw [Int.toNat_of_nonneg hx.1] at hy; exact .inl (List.mem_append.2 (.inr hy))
    · exact hmv y (h.cl i hi y hy)
theorem Mk.done {nx S seen} (h : Mk nx S seen []) (hS : ∀ x ∈ S, 0 ≤ x ∧ x < 24) (hn : ∀ x, 0 ≤ x ∧ x < 24 → ∀ y ∈ nx x, 0 ≤ y ∧ y < 24) (i : Nat) : seen.getD i false = true ↔ Rc nx S i := by
  refine ⟨h.rcs i, fun hr => ?_⟩
  have := (show ∀ x, Rc nx S x → 0 ≤ x ∧ x < 24 ∧ seen.getD x.toNat false = true from fun x hx => by
    induction hx with
    | here hx =>
      have h1 := hS _ hx
      rcases h.src _ hx with q | q
      · simp at q
      · exact ⟨h1.1, h1.2, q⟩
    | step _ hy ih =>
      have h1 := hn _ ⟨ih.1, ih.2.1⟩ _ hy
      rcases h.cl _ ih.2.2 _ (by rw [Int.toNat_of_nonneg ih.1]; exact hy) with q | q
      · simp at q
      · exact ⟨h1.1, h1.2, q⟩) i hr
  have := this.2.2
  rwa [Int.toNat_natCast] at this
theorem count_set {l : List Bool} : ∀ {i : Nat}, i < l.length → l.getD i false = false → (l.set i true).count false + 1 = l.count false := by
  induction l with
  | nil => intro i h; simp at h
  | cons a l ih =>
    intro i h hf
    cases i with
    | zero => simp at hf; subst hf; simp
    | succ i =>
      have := ih (i := i) (by simpa using h) (by simpa [List.getD] using hf)
      simp only [List.set_cons_succ, List.count_cons]
      omega
theorem rdOf_nat (l : List Bool) (i : Int) : rdOf false l i = l.getD i.toNat false := rfl
noncomputable def rcB (nx : Int → List Int) (S : List Int) (x : Int) : Bool := @decide (Rc nx S x) (Classical.propDecidable _)
theorem rcB_iff (nx : Int → List Int) (S : List Int) (x : Int) : rcB nx S x = true ↔ Rc nx S x := by unfold rcB; exact @decide_eq_true_iff _ (Classical.propDecidable _)
noncomputable def marksL (nx : Int → List Int) (S : List Int) : List Bool := (List.range 24).map fun (i : Nat) => rcB nx S (i : Int)
theorem marks_loop (m S : List Int) (hm : m.length ≤ 1048576) (hS : ∀ x ∈ S, 0 ≤ x ∧ x < 24) : ∀ (n : Nat) (seen : List Bool) (todo : List Int) (k : Nat), Mk (nx m) S seen todo → todo.length + 3 * seen.count false ≤ n → n < 1000000 → 2000002 + n < k → spec_l23Marks.l0 k m seen todo = some (marksL (nx m) S)
  | n, seen, [], k, h, _, _, hk => by
    obtain ⟨k, rfl⟩ : ∃ q, k = q + 1 := ⟨k - 1, by omega⟩
    simp only [spec_l23Marks.l0]
    rw [if_neg (by simp)]
    congr 1
    refine List.ext_getElem (by simp [marksL, h.len]) fun i h1 h2 => ?_
    have hl := h.len
    have e := h.done hS (fun x _ => nx_cell m x) i
    have e2 : seen.getD i false = seen[i] := by simp [List.getD, h1]
    rw [e2] at e
    have e3 : (marksL (nx m) S)[i]'h2 = rcB (nx m) S (i : Int) := by simp [marksL]
    rw [e3, Bool.eq_iff_iff, rcB_iff]; exact e
  | 0, seen, x :: todo, k, h, hn, _, hk => by simp at hn
  | n + 1, seen, x :: todo, k, h, hn, hb, hk => by
    obtain ⟨k, rfl⟩ : ∃ q, k = q + 1 := ⟨k - 1, by omega⟩
    have hx := h.cell x (by simp)
    have hl := h.len
    simp only [List.length_cons] at hn
    have hrd : rd (x :: todo) 0 = x := rfl
    simp only [spec_l23Marks.l0]
    rw [if_pos (by simp only [List.length_cons]; omega), if_pos (by simp only [List.length_cons]; omega), Option.bind_some, if_pos (by simp only [List.length_cons]; omega), Option.bind_some, if_pos (by simp; omega), Option.bind_some, hrd, if_pos hx.1, if_pos (by omega), rdOf_nat, List.nil_append, List.drop_succ_cons, List.drop_zero]
    by_cases c : seen.getD x.toNat false = true
    · rw [if_pos c]
      exact marks_loop m S hm hS n seen todo k (h.skip c) (by omega) (by omega) (by omega)
    · have hc : seen.getD x.toNat false = false := by simpa using c
      have hq := count_set (by omega : x.toNat < seen.length) hc
      obtain ⟨_, e, e2⟩ := next_eq m x hm k (by omega)
      rw [if_neg c, e, Option.bind_some, if_pos (by omega)]
      exact marks_loop m S hm hS n (seen.set x.toNat true) (todo ++ nx m x) k (h.mark (nx_cell m x)) (by rw [List.length_append]; omega) (by omega) (by omega)
theorem mk_start (m S : List Int) (hS : ∀ x ∈ S, 0 ≤ x ∧ x < 24) : Mk (nx m) S (List.replicate 24 false) S := by
  have hf : ∀ j : Nat, (List.replicate 24 false).getD j false = false := fun j => by
    rw [List.getD, List.getElem?_replicate]; split <;> rfl
  refine ⟨List.length_replicate, hS, fun x hx => Rc.here hx, fun i hi => ?_, fun x hx => .inl hx, fun i hi => ?_⟩
  · rw [hf] at hi; cases hi
  · rw [hf] at hi; cases hi
theorem marks_eq (m S : List Int) (hm : m.length ≤ 1048576) (hS : ∀ x ∈ S, 0 ≤ x ∧ x < 24) (hl : S.length ≤ 1000) (k : Nat) (hk : 2100000 < k) : spec_l23Marks.f k m S = some (marksL (nx m) S) := by
  unfold spec_l23Marks.f
  rw [Option.bind_some, if_pos (by simp; omega), List.nil_append]
  exact marks_loop m S hm hS (S.length + 72) _ _ k (mk_start m S hS) (by simp) (by omega) (by omega)
theorem marksL_get (nx : Int → List Int) (S : List Int) (i : Nat) (h : i < 24) : (marksL nx S).getD i false = true ↔ Rc nx S (i : Int) := by
  unfold marksL
  rw [← rcB_iff]
  simp [List.getD, h]
theorem marksL_len (nx : Int → List Int) (S : List Int) : (marksL nx S).length = 24 := by simp [marksL]
noncomputable def reachL (nx : Int → List Int) (S : List Int) : List Int := ((List.range 24).map fun (i : Nat) => (i : Int)).filter fun x => rcB nx S x
theorem reachL_mem (nx : Int → List Int) (S : List Int) (hS : ∀ x ∈ S, 0 ≤ x ∧ x < 24) (hn : ∀ x, ∀ y ∈ nx x, 0 ≤ y ∧ y < 24) (x : Int) : x ∈ reachL nx S ↔ Rc nx S x := by
  unfold reachL
  rw [List.mem_filter, rcB_iff]
  refine ⟨fun h => h.2, fun h => ⟨?_, h⟩⟩
  have hx : 0 ≤ x ∧ x < 24 := by
    cases h with
    | here h => exact hS _ h
    | step _ h => exact hn _ _ h
  exact List.mem_map.2 ⟨x.toNat, List.mem_range.2 (by omega), by omega⟩
theorem reachL_cell (nx : Int → List Int) (S : List Int) (x : Int) (h : x ∈ reachL nx S) : 0 ≤ x ∧ x < 24 := by
  unfold reachL at h
  obtain ⟨i, hi, rfl⟩ := List.mem_map.1 (List.mem_filter.1 h).1
  have := List.mem_range.1 hi
  omega
theorem reachL_len (nx : Int → List Int) (S : List Int) : (reachL nx S).length ≤ 24 := by
  unfold reachL
  exact Nat.le_trans (List.length_filter_le _ _) (by simp)
theorem reachL_nodup (nx : Int → List Int) (S : List Int) : (reachL nx S).Nodup ∧ (reachL nx S).Pairwise fun x y => x ≤ y := by
  have h : ((List.range 24).map fun (i : Nat) => (i : Int)).Pairwise fun x y => x < y := by
    rw [List.pairwise_map]
    exact List.pairwise_lt_range.imp (fun h => by omega)
  exact ⟨(h.imp (fun h => by omega : ∀ {a b : Int}, a < b → a ≠ b)).filter _, (h.imp (fun h => by omega : ∀ {a b : Int}, a < b → a ≤ b)).filter _⟩
/-- Where one comes to: of an own memory and cell all that is come to, else nothing. -/
noncomputable def reachOf (m : List Int) (from_ : Int) : List Int := if wordsB m 24 = true ∧ (0 ≤ from_ ∧ from_ ≤ 23) then reachL (nx m) [from_] else []
theorem reachOf_len (m : List Int) (x : Int) : (reachOf m x).length ≤ 24 := by
  unfold reachOf; split
  · exact reachL_len _ _
  · simp
theorem specReach_loop (m S : List Int) (k : Nat) (hk : 100 < k) : spec_ReachOf.l0 k [] (marksL (nx m) S) 0 = some (reachL (nx m) S) := by
  have h := for_st 24 (fun k i (s : List Int) => spec_ReachOf.l0 k s (marksL (nx m) S) (i : Int)) (fun j => ((List.range j).map fun (i : Nat) => (i : Int)).filter fun x => rdOf false (marksL (nx m) S) x) (reachL (nx m) S) ?_ ?_ k 0 (Nat.zero_le _) (by omega)
  · simpa using h
  · intro k' i hi
    have hlen : (((List.range i).map fun (i : Nat) => (i : Int)).filter fun x => rdOf false (marksL (nx m) S) x).length ≤ 24 := Nat.le_trans (List.length_filter_le _ _) (by simp; omega)
    have e : (((List.range (i + 1)).map fun (i : Nat) => (i : Int)).filter fun x => rdOf false (marksL (nx m) S) x) = (((List.range i).map fun (i : Nat) => (i : Int)).filter fun x => rdOf false (marksL (nx m) S) x) ++ (if rdOf false (marksL (nx m) S) (i : Int) = true then [(i : Int)] else []) := by
      rw [List.range_succ, List.map_append, List.filter_append]
      congr 1
      by_cases c : rdOf false (marksL (nx m) S) (i : Int) = true
      · rw [if_pos c, List.map_singleton, List.filter_cons_of_pos c, List.filter_nil]
      · rw [if_neg c, List.map_singleton, List.filter_cons_of_neg c, List.filter_nil]
    simp only [spec_ReachOf.l0]
    rw [if_pos (by omega), if_pos (by omega), if_pos (by rw [marksL_len]; omega), wrap_succ (by omega), e]
    by_cases c : rdOf false (marksL (nx m) S) (i : Int) = true
    · rw [if_pos c, if_pos (by omega), if_pos c]
    · rw [if_neg c, if_neg c, List.append_nil]
  · intro k'
    simp only [spec_ReachOf.l0]
    rw [if_neg (by omega)]
    congr 1
theorem specReach_eq (m : List Int) (x : Int) (hm : m.length ≤ 1048576) (k : Nat) (hk : 2200000 < k) : spec_ReachOf.f k m x = some (reachOf m x) := by
  obtain ⟨k, rfl⟩ : ∃ q, k = q + 1 := ⟨k - 1, by omega⟩
  unfold spec_ReachOf.f reachOf
  rw [Option.bind_some, l1Words_eq m 24 (by omega) _ (by omega), Option.bind_some]
  by_cases hw : wordsB m 24 = true
  · rw [if_pos hw, l1In_eq, Option.bind_some]
    by_cases hc : 0 ≤ x ∧ x ≤ 23
    · rw [decide_eq_true hc, Bool.not_true, spec_ReachOf.j0, if_neg (by simp), marks_eq m [x] hm (by simp; omega) (by simp) k (by omega), Option.bind_some, specReach_loop m [x] k (by omega), if_pos ⟨hw, hc⟩]
    · rw [decide_eq_false hc, Bool.not_false, spec_ReachOf.j0, if_pos rfl, if_neg (fun q => hc q.2)]
  · rw [if_neg hw, spec_ReachOf.j0, if_pos rfl, if_neg (fun q => hw q.1)]
theorem contains_eq (l : List Int) (a : Int) (hl : l.length ≤ 4194304) (k : Nat) (hk : l.length < k) : slices_Contains_int_int.f k l a = some (decide (a ∈ l)) := by
  unfold slices_Contains_int_int.f slices_Index_int_int.f
  obtain ⟨v, h1, h2⟩ := idx_any (n := l.length) (fun k i => slices_Index_int_int.l0 k l a (l.length : Int) (i : Int)) (fun i => decide (a = rd l (i : Int))) (fun k i hi hq => by
      have hq := of_decide_eq_false hq
      simp only [slices_Index_int_int.l0]
      rw [if_pos (by omega), if_pos (by omega), if_pos (by omega), if_neg hq, wrap_succ (by omega)]) (fun k i hi hq => by
      have hq := of_decide_eq_true hq
      simp only [slices_Index_int_int.l0]
      rw [if_pos (by omega), if_pos (by omega), if_pos (by omega), if_pos hq]) (fun k => by
      simp only [slices_Index_int_int.l0]
      rw [if_neg (by omega)]) (decide (a ∈ l)) (by
      rw [decide_eq_true_iff, List.mem_iff_getElem]
      refine ⟨fun ⟨j, hj, e⟩ => ⟨j, hj, ?_⟩, fun ⟨j, hj, e⟩ => ⟨j, hj, ?_⟩⟩
      · rw [decide_eq_true_iff, rd_nat l j hj, e]
      · rw [decide_eq_true_iff, rd_nat l j hj] at e; exact e.symm) k hk
  have h1' : slices_Index_int_int.l0 k l a (l.length : Int) 0 = some v := h1
  rw [h1', Option.bind_some, h2]
theorem add_loop (m : List Int) (i : Int) (t : List Int) : ∀ (n j : Nat) (o : List Int) (k : Nat), t.length = j + n → o.length + n ≤ 4194304 → t.length ≤ 4194304 → o.length + n < k → impl_ReachOf.l1 (k + n + 1) m o i t (t.length : Int) (j : Int) = impl_ReachOf.l0 k m ((t.drop j).foldl addOne o) (wrap64 (i + 1))
  | 0, j, o, k, ht, _, _, hk => by
    simp only [impl_ReachOf.l1]
    rw [if_neg (by omega), List.drop_of_length_le (by omega)]; rfl
  | n + 1, j, o, k, ht, ho, hb, hk => by
    have e := List.drop_eq_getElem_cons (l := t) (i := j) (by omega)
    rw [show k + (n + 1) + 1 = (k + n + 1) + 1 by omega]
    simp only [impl_ReachOf.l1]
    rw [if_pos (by omega), if_pos (by omega), if_pos (by omega), rd_nat t j (by omega), contains_eq _ _ (by omega) _ (by omega), Option.bind_some, e, List.foldl_cons, wrap_succ (by omega)]
    unfold addOne
    by_cases c : t[j] ∈ o
    · rw [if_pos (decide_eq_true c), if_pos c]
      exact add_loop m i t n (j + 1) o k (by omega) (by omega) hb (by omega)
    · rw [if_neg (by simpa using c), if_pos (by omega), if_neg c]
      exact add_loop m i t n (j + 1) (o ++ [t[j]]) k (by omega) (by rw [List.length_append, List.length_singleton]; omega) hb (by rw [List.length_append, List.length_singleton]; omega)
theorem reach_loop (m : List Int) (f : Int) (hm : m.length ≤ 1048576) : ∀ (n i : Nat) (o : List Int) (k : Nat), Ga (nx m) [f] o → f ∈ o → i ≤ o.length → (∀ j (h : j < o.length), j < i → ∀ y ∈ nx m o[j], y ∈ o) → 24 ≤ i + n → n ≤ 24 → 2000100 + 10 * n < k → impl_ReachOf.l0 k m o (i : Int) = some (reachL (nx m) [f])
  | n, i, o, k, hg, hf, hi, hc, hn, hn2, hk => by
    obtain ⟨k, rfl⟩ : ∃ q, k = q + 1 := ⟨k - 1, by omega⟩
    have hol := nodup_bound 24 o hg.nd hg.cell
    have hfc := hg.cell f hf
    by_cases h : i < o.length
    · obtain ⟨e, _, e2⟩ := next_eq m o[i] hm k (by omega)
      obtain ⟨g1, g2, g3⟩ := hg.all (nx m o[i]) o (nx_cell m _) (fun y hy => (hg.rc _ (List.getElem_mem h)).step hy)
      match n, hn, hn2, hk with
      | 0, hn, _, _ => omega
      | n + 1, hn, hn2, hk =>
        simp only [impl_ReachOf.l0]
        rw [if_pos (by omega), if_pos (by omega), rd_nat o i h, e, Option.bind_some]
        have ha := add_loop m (i : Int) (nx m o[i]) (nx m o[i]).length 0 o (k - (nx m o[i]).length - 1) (by omega) (by omega) (by omega) (by omega)
        rw [show k - (nx m o[i]).length - 1 + (nx m o[i]).length + 1 = k by omega, List.drop_zero] at ha
        rw [show ((0 : Nat) : Int) = 0 from rfl] at ha
        rw [ha, wrap_succ (by omega)]
        refine reach_loop m f hm n (i + 1) _ _ g1 (g3.subset hf) (by have := g3.length_le; omega) (fun j hj hji y hy => ?_) (by omega) (by omega) (by omega)
        have hjo : j < o.length := by omega
        have ej : ((nx m o[i]).foldl addOne o)[j] = o[j] := (g3.getElem hjo).symm
        rw [ej] at hy
        by_cases c : j = i
        · subst c; exact g2 y hy
        · exact g3.subset (hc j hjo (by omega) y hy)
    · simp only [impl_ReachOf.l0]
      rw [if_neg (by omega)]
      unfold slices_Sort_int_int.f
      rw [if_pos (by omega), Option.bind_some]
      congr 1
      have hS : ∀ x ∈ [f], 0 ≤ x ∧ x < 24 := fun x hx => by rw [List.mem_singleton] at hx; subst hx; exact hfc
      refine same_sorted hg.nd (reachL_nodup _ _).1 (fun x => ?_) (reachL_nodup _ _).2
      rw [reachL_mem _ _ hS (nx_cell m)]
      refine ⟨hg.rc x, Rc.closed (P := fun x => x ∈ o) (fun y hy => by rw [List.mem_singleton] at hy; subst hy; exact hf) (fun y hy z hz => ?_) x⟩
      obtain ⟨j, hj, rfl⟩ := List.mem_iff_getElem.1 hy
      exact hc j hj (by omega) z hz
theorem implReach_eq (m : List Int) (x : Int) (hm : m.length ≤ 1048576) (k : Nat) (hk : 2200000 < k) : impl_ReachOf.f k m x = some (reachOf m x) := by
  obtain ⟨k, rfl⟩ : ∃ q, k = q + 1 := ⟨k - 1, by omega⟩
  unfold impl_ReachOf.f reachOf
  rw [Option.bind_some, memOk_eq m (by omega) _ (by omega), Option.bind_some]
  by_cases hw : wordsB m 24 = true
  · rw [if_pos hw, isCell_eq, Option.bind_some]
    by_cases hc : 0 ≤ x ∧ x ≤ 23
    · rw [decide_eq_true hc, Bool.not_true, impl_ReachOf.j0, if_neg (by simp), if_pos (by simp), List.nil_append, if_pos ⟨hw, hc⟩]
      exact reach_loop m x hm 24 0 [x] k ⟨by simp, by simp; omega, by intro y hy; rw [List.mem_singleton] at hy; subst hy; exact .here (by simp)⟩ (by simp) (by simp) (fun j _ hj => by omega) (by omega) (by omega) (by omega)
    · rw [decide_eq_false hc, Bool.not_false, impl_ReachOf.j0, if_pos rfl, if_neg (fun q => hc q.2)]
  · rw [if_neg hw, impl_ReachOf.j0, if_pos rfl, if_neg (fun q => hw q.1)]
theorem implLeads_eq (m : List Int) (x y : Int) (hm : m.length ≤ 1048576) (k : Nat) (hk : 2200000 < k) : impl_LeadsTo.f k m x y = some (decide (y ∈ reachOf m x)) := by
  have hv := reachOf_len m x
  unfold impl_LeadsTo.f
  rw [implReach_eq m x hm k hk, Option.bind_some, contains_eq _ _ (by omega) _ (by omega), Option.bind_some]
theorem specLeads_eq (m : List Int) (x y : Int) (hm : m.length ≤ 1048576) (k : Nat) (hk : 2200000 < k) : spec_LeadsTo.f k m x y = some (decide (y ∈ reachOf m x)) := by
  have hv := reachOf_len m x
  unfold spec_LeadsTo.f
  rw [specReach_eq m x hm k hk, Option.bind_some]
  generalize reachOf m x = v at hv
  rcases for_find v.length (fun k i => spec_LeadsTo.l0 k y v (i : Int)) (fun i => rd v (i : Int) = y) (fun _ => true) false (fun k i hi hq => by
      simp only [spec_LeadsTo.l0]
      rw [if_pos (by omega), if_pos (by omega), if_neg hq, wrap_succ (by omega)]) (fun k i hi hq => by
      simp only [spec_LeadsTo.l0]
      rw [if_pos (by omega), if_pos (by omega), if_pos hq]) (fun k => by
      simp only [spec_LeadsTo.l0]
      rw [if_neg (by omega)]) k 0 (Nat.zero_le _) (by omega) with ⟨j, _, h2, h3, _, h5⟩ | ⟨h1, h2⟩
  · refine Eq.trans h5 ?_
    rw [rd_nat v j h2] at h3
    rw [decide_eq_true (by rw [← h3]; exact List.getElem_mem _)]
  · refine Eq.trans h2 ?_
    rw [decide_eq_false (fun hy => ?_)]
    obtain ⟨j, hj, e⟩ := List.mem_iff_getElem.1 hy
    exact h1 j (Nat.zero_le _) hj (by rw [rd_nat v j hj, e])
theorem reachOf_cell (m : List Int) (x c : Int) (h : c ∈ reachOf m x) : wordsB m 24 = true ∧ 0 ≤ c ∧ c < 24 := by
  unfold reachOf at h
  split at h
  · rename_i g; exact ⟨g.1, reachL_cell _ _ _ h⟩
  · simp at h
theorem reachOf_mem (m : List Int) (x c : Int) (hw : wordsB m 24 = true) (hx : 0 ≤ x ∧ x < 24) : c ∈ reachOf m x ↔ Rc (nx m) [x] c := by
  unfold reachOf
  rw [if_pos ⟨hw, hx.1, by omega⟩]
  exact reachL_mem _ _ (fun y hy => by rw [List.mem_singleton] at hy; subst hy; exact hx) (nx_cell m) c
theorem rc_split (nx : Int → List Int) (S : List Int) (c : Int) : Rc nx S c ↔ ∃ n, n ∈ S ∧ Rc nx [n] c := by
  constructor
  · intro h
    induction h with
    | here h => exact ⟨_, h, .here (by simp)⟩
    | step _ hy ih => obtain ⟨n, hn, hr⟩ := ih; exact ⟨n, hn, hr.step hy⟩
  · rintro ⟨n, hn, h⟩
    induction h with
    | here h => rw [List.mem_singleton] at h; subst h; exact .here hn
    | step _ hy ih => exact ih.step hy
/-- A loop that looks for one that passes. -/
theorem any_loop (v : List Int) (q : Int → Bool) (L : Nat → Nat → Option Bool) (C : Nat) (hs : ∀ k i, C ≤ k → (h : i < v.length) → q v[i] = false → L (k + 1) i = L k (i + 1)) (hb : ∀ k i, C ≤ k → (h : i < v.length) → q v[i] = true → L (k + 1) i = some true) (he : ∀ k, L (k + 1) v.length = some false) (k : Nat) (hk : v.length + C < k) : L k 0 = some (v.any q) := by
  have g := for_find v.length (fun k i => L (k + C) i) (fun i => ∃ h : i < v.length, q v[i] = true) (fun _ => true) false (fun k i hi hq => by
      show L (k + 1 + C) i = _
      rw [show k + 1 + C = (k + C) + 1 by omega]
      exact hs _ _ (by omega) hi (by cases hh : q v[i]; · rfl
                                     · exact absurd ⟨hi, hh⟩ hq)) (fun k i hi hq => by
      show L (k + 1 + C) i = _
      rw [show k + 1 + C = (k + C) + 1 by omega]
      obtain ⟨h, hh⟩ := hq
      exact hb _ _ (by omega) h hh) (fun k => by
      show L (k + 1 + C) v.length = _
      rw [show k + 1 + C = (k + C) + 1 by omega]
      exact he _) (k - C) 0 (Nat.zero_le _) (by omega)
  rw [show k - C + C = k by omega] at g
  rcases g with ⟨j, _, h2, ⟨h, h3⟩, _, h5⟩ | ⟨h1, h2⟩
  · rw [h5, List.any_eq_true.2 ⟨_, List.getElem_mem h, h3⟩]
  · rw [h2]; congr 1; symm
    rw [List.any_eq_false]
    intro x hx hq
    obtain ⟨j, hj, rfl⟩ := List.mem_iff_getElem.1 hx
    exact h1 j (Nat.zero_le _) hj ⟨hj, hq⟩
theorem findJ_any (p : Int → Option Bool) (q : Int → Bool) : ∀ (l : List Int) (i : Nat), (∀ c ∈ l, p c = some (q c)) → ∃ v, findJ p l i = some v ∧ decide (v ≥ 0) = l.any q
  | [], i, _ => ⟨-1, rfl, rfl⟩
  | c :: r, i, h => by
    unfold findJ
    rw [h c (by simp), Option.bind_some, List.any_cons]
    cases hq : q c with
    | true => exact ⟨(i : Int), by rw [if_pos rfl], by rw [Bool.true_or]; exact decide_eq_true (by omega)⟩
    | false =>
      obtain ⟨v, h1, h2⟩ := findJ_any p q r (i + 1) (fun c hc => h c (by simp [hc]))
      exact ⟨v, by rw [if_neg (by simp)]; exact h1, by rw [h2, Bool.false_or]⟩
theorem findI_any (p : Int → Option Bool) (q : Int → Bool) : ∀ (l : List Int) (i : Nat), (∀ c ∈ l, p c = some (q c)) → ∃ v, findI p l i = some v ∧ decide (v ≥ 0) = l.any q
  | [], i, _ => ⟨-1, rfl, rfl⟩
  | c :: r, i, h => by
    unfold findI
    rw [h c (by simp), Option.bind_some, List.any_cons]
    cases hq : q c with
    | true => exact ⟨(i : Int), by rw [if_pos rfl], by rw [Bool.true_or]; exact decide_eq_true (by omega)⟩
    | false =>
      obtain ⟨v, h1, h2⟩ := findI_any p q r (i + 1) (fun c hc => h c (by simp [hc]))
      exact ⟨v, by rw [if_neg (by simp)]; exact h1, by rw [h2, Bool.false_or]⟩
def wqB (m : List Int) (c : Int) : Bool := (decodeV (rd m c)).1 == 5 || (decodeV (rd m c)).1 == 6
theorem decodeV_bad (w : Int) (h : (decodeV w).2.2.2.2.2 = false) : (decodeV w).1 = 0 := by
  unfold decodeV at h ⊢
  split at h
  · simp at h
  · rename_i c; rw [if_neg c]
theorem implWrites_eq (m : List Int) (x : Int) (hm : m.length ≤ 1048576) (k : Nat) (hk : 2200000 < k) : impl_WritesFrom.f k m x = some ((reachOf m x).any (wqB m)) := by
  unfold impl_WritesFrom.f
  rw [implReach_eq m x hm k hk, Option.bind_some]
  obtain ⟨v, h1, h2⟩ := findJ_any (wrAt m) (wqB m) (reachOf m x) 0 (fun c hc => by
    obtain ⟨hw, h0, h1⟩ := reachOf_cell m x c hc
    have := wordsB_24 hw
    unfold wrAt wqB
    rw [if_pos ⟨h0, by omega⟩, implDecode_eq, Option.bind_some])
  rw [h1, Option.bind_some, h2]
theorem specWrites_eq (m : List Int) (x : Int) (hm : m.length ≤ 1048576) (k : Nat) (hk : 2200000 < k) : spec_WritesFrom.f k m x = some ((reachOf m x).any (wqB m)) := by
  have hv := reachOf_len m x
  have hc := reachOf_cell m x
  unfold spec_WritesFrom.f
  rw [specReach_eq m x hm k hk, Option.bind_some]
  generalize reachOf m x = v at hv hc
  have body : ∀ (k i : Nat) (hi : i < v.length), spec_WritesFrom.l0 (k + 1) m v (i : Int) = if wqB m v[i] = true then some true else spec_WritesFrom.l0 k m v ((i + 1 : Nat) : Int) := by
    intro k i hi
    obtain ⟨hw, h0, h1⟩ := hc _ (List.getElem_mem hi)
    have h24 := wordsB_24 hw
    simp only [spec_WritesFrom.l0]
    rw [if_pos (by omega), if_pos (by omega), rd_nat v i hi, if_pos h0, if_pos (by omega), dec_same, implDecode_eq, Option.bind_some, wrap_succ (by omega)]
    unfold wqB
    have hbad := decodeV_bad (rd m v[i])
    generalize decodeV (rd m v[i]) = D at hbad
    obtain ⟨d0, d1, d2, d3, d4, d5⟩ := D
    dsimp only at hbad ⊢
    cases d5 with
    | true =>
      rw [if_pos rfl]
      by_cases h5 : d0 = 5
      · rw [if_pos h5, if_pos (by simp [h5])]
      · rw [if_neg h5]
        by_cases h6 : d0 = 6
        · rw [if_pos h6, if_pos (by simp [h6])]
        · rw [if_neg h6, if_neg (by simp [h5, h6])]
    | false =>
      have := hbad rfl
      rw [if_neg (by simp), if_neg (by simp [this])]
  exact any_loop v (wqB m) (fun k i => spec_WritesFrom.l0 k m v (i : Int)) 0 (fun k i _ hi hq => by show spec_WritesFrom.l0 (k + 1) m v (i : Int) = _; rw [body k i hi, if_neg (by simp [hq])]) (fun k i _ hi hq => by show spec_WritesFrom.l0 (k + 1) m v (i : Int) = _; rw [body k i hi, if_pos hq]) (fun k => by
    simp only [spec_WritesFrom.l0]
    rw [if_neg (by omega)]) k (by omega)
noncomputable def lqB (m : List Int) (c : Int) : Bool := (nx m c).any fun n => decide (c ∈ reachOf m n)
theorem loAt_eq (m : List Int) (c : Int) (hm : m.length ≤ 1048576) (k : Nat) (hk : 2200000 < k) : loAt k m c = some (lqB m c) := by
  unfold loAt lqB
  rw [(next_eq m c hm k (by omega)).1, Option.bind_some]
  obtain ⟨v, h1, h2⟩ := findI_any (fun n => impl_LeadsTo.f k m n c) (fun n => decide (c ∈ reachOf m n)) (nx m c) 0 (fun n _ => implLeads_eq m n c hm k hk)
  rw [h1, Option.bind_some, h2]
theorem implLoops_eq (m : List Int) (x : Int) (hm : m.length ≤ 1048576) (k : Nat) (hk : 2200000 < k) : impl_LoopsFrom.f k m x = some ((reachOf m x).any (lqB m)) := by
  unfold impl_LoopsFrom.f
  rw [implReach_eq m x hm k hk, Option.bind_some]
  obtain ⟨v, h1, h2⟩ := findI_any (loAt k m) (lqB m) (reachOf m x) 0 (fun c _ => loAt_eq m c hm k hk)
  rw [h1, Option.bind_some, h2]
theorem specLoops_eq (m : List Int) (x : Int) (hm : m.length ≤ 1048576) (k : Nat) (hk : 2300000 < k) : spec_LoopsFrom.f k m x = some ((reachOf m x).any (lqB m)) := by
  have hv := reachOf_len m x
  have hc := reachOf_cell m x
  unfold spec_LoopsFrom.f
  rw [specReach_eq m x hm k (by omega), Option.bind_some]
  generalize reachOf m x = v at hv hc
  have body : ∀ (k i : Nat) (hi : i < v.length), 2200000 ≤ k → spec_LoopsFrom.l0 (k + 1) m v (i : Int) = if lqB m v[i] = true then some true else spec_LoopsFrom.l0 k m v ((i + 1 : Nat) : Int) := by
    intro k i hi hk
    obtain ⟨hw, h0, h1⟩ := hc _ (List.getElem_mem hi)
    have h24 := wordsB_24 hw
    obtain ⟨_, e1, e2⟩ := next_eq m v[i] hm k (by omega)
    simp only [spec_LoopsFrom.l0]
    rw [if_pos (by omega), if_pos (by omega), rd_nat v i hi, e1, Option.bind_some, marks_eq m (nx m v[i]) hm (nx_cell m _) (by omega) k (by omega), Option.bind_some, if_pos h0, if_pos (by rw [marksL_len]; omega), wrap_succ (by omega), rdOf_nat]
    have g := marksL_get (nx m) (nx m v[i]) (v[i]).toNat (by omega)
    rw [Int.toNat_of_nonneg h0, rc_split] at g
    have g2 : lqB m v[i] = true ↔ (∃ n, n ∈ nx m v[i] ∧ Rc (nx m) [n] v[i]) := by
      unfold lqB
      rw [List.any_eq_true]
      refine exists_congr fun n => and_congr_right fun hn => ?_
      rw [decide_eq_true_iff]
      exact reachOf_mem m n v[i] hw (nx_cell m _ n hn)
    by_cases c : lqB m v[i] = true
    · rw [if_pos (g.2 (g2.1 c)), if_pos c]
    · rw [if_neg (fun q => c (g2.2 (g.1 q))), if_neg c]
  exact any_loop v (lqB m) (fun k i => spec_LoopsFrom.l0 k m v (i : Int)) 2200000 (fun k i h hi hq => by show spec_LoopsFrom.l0 (k + 1) m v (i : Int) = _; rw [body k i hi h, if_neg (by simp [hq])]) (fun k i h hi hq => by show spec_LoopsFrom.l0 (k + 1) m v (i : Int) = _; rw [body k i hi h, if_pos hq]) (fun k => by
    simp only [spec_LoopsFrom.l0]
    rw [if_neg (by omega)]) k (by omega)
theorem reachOf_closed (m : List Int) (x c y : Int) (h : c ∈ reachOf m x) (hy : y ∈ nx m c) : y ∈ reachOf m x := by
  have h' := h
  unfold reachOf at h'
  split at h'
  · rename_i g
    rw [reachOf_mem m x c g.1 ⟨g.2.1, by omega⟩] at h
    rw [reachOf_mem m x y g.1 ⟨g.2.1, by omega⟩]
    exact h.step hy
  · simp at h'
theorem reachOf_self (m : List Int) (x : Int) (h : reachOf m x ≠ []) : x ∈ reachOf m x := by
  by_cases g : wordsB m 24 = true ∧ (0 ≤ x ∧ x ≤ 23)
  · rw [reachOf_mem m x x g.1 ⟨g.2.1, by omega⟩]
    exact .here (by simp)
  · exact absurd (by unfold reachOf; rw [if_neg g]) h
theorem within_eq (l : List Int) (x : Int) (k : Nat) (hl : l.length ≤ 1048576) (hk : l.length < k) : laws_within.f k l x = some (decide (x ∈ l)) := by
  unfold laws_within.f
  have h := any_loop l (fun y => decide (y = x)) (fun k i => laws_within.l0 k l x (i : Int)) 0 (fun k i _ hi hq => by
      have hq := of_decide_eq_false hq
      simp only [laws_within.l0]
      rw [if_pos (by omega), if_pos (by omega), rd_nat l i hi, if_neg hq, wrap_succ (by omega)]) (fun k i _ hi hq => by
      have hq := of_decide_eq_true hq
      simp only [laws_within.l0]
      rw [if_pos (by omega), if_pos (by omega), rd_nat l i hi, if_pos hq]) (fun k => by
      simp only [laws_within.l0]
      rw [if_neg (by omega)]) k (by omega)
  have e : (l.any fun y => decide (y = x)) = decide (x ∈ l) := by
    rw [Bool.eq_iff_iff, List.any_eq_true, decide_eq_true_iff]
    exact ⟨fun ⟨y, hy, q⟩ => by rw [← of_decide_eq_true q]; exact hy, fun h => ⟨x, h, decide_eq_true rfl⟩⟩
  rw [← e]; exact h
theorem l23Draw_ex (c : List Int) (hc : c.length ≤ 1048576) (k : Nat) (hk : 10000 < k) : ∃ m pc, spec_l23Draw.f k c = some (m, pc) ∧ m.length ≤ 24 := by
  unfold spec_l23Draw.f
  obtain ⟨i0, s0, e0, c0⟩ := l1New_ex c hc k (by omega)
  obtain ⟨m, i1, s1, e1, hm, c1⟩ := drawMem_ex c i0 s0 c0 k (by omega)
  obtain ⟨on, i2, s2, e2, c2⟩ := l1Once_ex c i1 s1 c1 12 (by omega) (by omega)
  obtain ⟨v, i3, s3, e3, _, c3⟩ := l1PickInt_ex c i2 s2 c2 [0, 1, 2, 4, 8, 9, 20, 23, 24, (-1)] (by simp) (by simp)
  simp only [e0, e1, e2, e3, Option.bind_some]
  by_cases h0 : on = true
  · rw [if_pos h0, if_pos (by omega)]
    exact ⟨_, _, rfl, by rw [List.length_drop]; omega⟩
  · rw [if_neg h0]; exact ⟨_, _, rfl, by omega⟩
theorem flows_l1 (m : List Int) (pc : Int) (hm : m.length ≤ 1048576) (i : Nat) (c : Int) (hi : i < (reachOf m pc).length) (hc : (reachOf m pc)[i] = c) : ∀ (d j k : Nat), (nx m c).length = j + d → 2300000 < k →
    laws_FnFlows.l1 (k + d + 1) m pc (reachOf m pc) (i : Int) (nx m c) (j : Int) = laws_FnFlows.l0 k m pc (reachOf m pc) ((i + 1 : Nat) : Int)
  | 0, j, k, hd, hk => by
    have hl := reachOf_len m pc
    simp only [laws_FnFlows.l1]
    rw [if_neg (by omega), if_pos (by omega), if_pos (by omega), rd_nat _ i hi, implLeads_eq m pc _ hm _ (by omega), Option.bind_some, if_pos (decide_eq_true (List.getElem_mem hi)), wrap_succ (by omega)]
  | d + 1, j, k, hd, hk => by
    have hl := reachOf_len m pc
    have hj : j < (nx m c).length := by omega
    have hmem : c ∈ reachOf m pc := by rw [← hc]; exact List.getElem_mem hi
    have hin := reachOf_closed m pc c _ hmem (List.getElem_mem hj)
    rw [show k + (d + 1) + 1 = (k + d + 1) + 1 by omega]
    simp only [laws_FnFlows.l1]
    rw [if_pos (by omega), if_pos (by omega), rd_nat _ j hj, within_eq _ _ _ (by omega) (by omega), Option.bind_some, if_pos (decide_eq_true hin), wrap_small (by omega) (by have := (next_eq m c hm 3000000 (by omega)).2.2; omega)]
    have := flows_l1 m pc hm i c hi hc d (j + 1) k (by omega) hk
    rw [Int.natCast_add] at this
    exact this
theorem flows_l0 (m : List Int) (pc : Int) (hm : m.length ≤ 1048576) : ∀ (d i k : Nat), i + d = (reachOf m pc).length → 2300010 + 5 * d < k → laws_FnFlows.l0 k m pc (reachOf m pc) (i : Int) = some true
  | 0, i, k, hi, hk => by
    obtain ⟨k, rfl⟩ : ∃ q, k = q + 1 := ⟨k - 1, by omega⟩
    have hl := reachOf_len m pc
    simp only [laws_FnFlows.l0]
    rw [if_neg (by omega)]
    by_cases h0 : ((reachOf m pc).length : Int) = 0
    · rw [if_pos h0]
    · rw [if_neg h0, within_eq _ _ _ (by omega) (by omega), Option.bind_some, decide_eq_true (reachOf_self m pc (fun q => h0 (by rw [q]; rfl)))]
  | d + 1, i, k, hi, hk => by
    obtain ⟨k, rfl⟩ : ∃ q, k = q + 1 := ⟨k - 1, by omega⟩
    have hl := reachOf_len m pc
    have hlt : i < (reachOf m pc).length := by omega
    obtain ⟨e1, _, e2⟩ := next_eq m (reachOf m pc)[i] hm k (by omega)
    simp only [laws_FnFlows.l0]
    rw [if_pos (by omega), if_pos (by omega), rd_nat _ i hlt, e1, Option.bind_some]
    have h := flows_l1 m pc hm i _ hlt rfl (nx m (reachOf m pc)[i]).length 0 (k - (nx m (reachOf m pc)[i]).length - 1) (by omega) (by omega)
    rw [show k - (nx m (reachOf m pc)[i]).length - 1 + (nx m (reachOf m pc)[i]).length + 1 = k by omega] at h
    rw [show ((0 : Nat) : Int) = 0 from rfl] at h
    rw [h]
    exact flows_l0 m pc hm d (i + 1) _ (by omega) (by omega)
theorem FnFlows : laws_FnFlows.Pure := by
  intro c _ _ _
  obtain ⟨K, hK⟩ : ∃ K : Nat, 5000000 ≤ K := ⟨_, Nat.le_refl _⟩
  refine ⟨K + 1, ?_⟩
  unfold laws_FnFlows.f laws_big.f
  rw [Option.bind_some]
  by_cases hb : (c.length : Int) > 1048576
  · rw [if_pos (decide_eq_true hb)]
  rw [if_neg (by simpa using hb)]
  obtain ⟨m, pc, ed, hl⟩ := l23Draw_ex c (by omega) (K + 1) (by omega)
  have hm : m.length ≤ 1048576 := by omega
  obtain ⟨i0, s0, e0, c0⟩ := l1New_ex c (by omega) (K + 1) (by omega)
  obtain ⟨v, i1, s1, e1, p1, q1, c1⟩ := l1Below_ex c i0 s0 c0 26 (by omega) (by omega)
  have d1 : spec_DrawReachOf.f (K + 1) c = some (m, pc) := by unfold spec_DrawReachOf.f; rw [ed, Option.bind_some]
  have d2 : spec_DrawNextOf.f (K + 1) c = some (m, pc) := by unfold spec_DrawNextOf.f; rw [ed, Option.bind_some]
  have d3 : spec_DrawLoopsFrom.f (K + 1) c = some (m, pc) := by unfold spec_DrawLoopsFrom.f; rw [ed, Option.bind_some]
  have d4 : spec_DrawWritesFrom.f (K + 1) c = some (m, pc) := by unfold spec_DrawWritesFrom.f; rw [ed, Option.bind_some]
  have d5 : spec_DrawLeadsTo.f (K + 1) c = some (m, pc, wrap64 (v - 1)) := by
    unfold spec_DrawLeadsTo.f
    rw [ed, Option.bind_some, e0, Option.bind_some]
    dsimp only
    rw [e1, Option.bind_some]
  have hr := reachOf_len m pc
  obtain ⟨n1, n2, n3⟩ := next_eq m pc hm (K + 1) (by omega)
  rw [d1, Option.bind_some]
  dsimp only
  rw [implReach_eq m pc hm (K + 1) (by omega), Option.bind_some, d2, Option.bind_some, d5, Option.bind_some, d3, Option.bind_some, d4, Option.bind_some]
  dsimp only
  rw [specReach_eq m pc hm (K + 1) (by omega), Option.bind_some, sameInts_same _ (by omega) (K + 1) (by omega), Option.bind_some, if_pos rfl, n1, Option.bind_some, n2, Option.bind_some, sameInts_same _ (by omega) (K + 1) (by omega), Option.bind_some, if_pos rfl, implLeads_eq m pc _ hm (K + 1) (by omega), Option.bind_some, specLeads_eq m pc _ hm (K + 1) (by omega), Option.bind_some, if_neg (by simp), implLoops_eq m pc hm (K + 1) (by omega), Option.bind_some, specLoops_eq m pc hm (K + 1) (by omega), Option.bind_some, if_neg (by simp), implWrites_eq m pc hm (K + 1) (by omega), Option.bind_some, specWrites_eq m pc hm (K + 1) (by omega), Option.bind_some, laws_FnFlows.j0, if_neg (by simp)]
  exact flows_l0 m pc hm (reachOf m pc).length 0 K (by omega) (by omega)
end Go.Proofs.Ytajhfpeijagpnaa.Pure
