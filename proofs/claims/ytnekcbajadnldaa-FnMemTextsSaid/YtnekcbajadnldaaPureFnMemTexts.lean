/- For all bytes: the memories that are drawn from them, and what changed in them, are shown by the program as by the reference, and where nothing changed nothing is shown: no conditions. -/
import Derived.Test.YtnekcbajadnldaaPFnMemTextsx7
namespace Go.Proofs.Ytnekcbajadnldaa.Pure
open Go.RowKit Go.Proofs.Ytnekcbajadnldaa.PFnMemTexts Go.Proofs.YtnekcbajadnldaaW.PrintWords Go.Proofs.YtnekcbajadnldaaW.PrintLast
set_option linter.unusedVariables false
set_option linter.unusedSimpArgs false

theorem wrap_small {x : Int} (h0 : -9223372036854775808 ≤ x) (h : x ≤ 9223372036854775807) : wrap64 x = x := by
  unfold wrap64; omega
theorem wrap_succ {i : Nat} (h : i < 4611686018427387904) : wrap64 ((i : Int) + 1) = ((i + 1 : Nat) : Int) := by
  unfold wrap64; omega
theorem rd_nat (l : List Int) (i : Nat) (h : i < l.length) : rd l (i : Int) = l[i] := by
  unfold rd; simp [List.getD, h]
theorem rd_mem (l : List Int) (i : Nat) (h : i < l.length) : rd l (i : Int) ∈ l := by
  rw [rd_nat l i h]; exact List.getElem_mem h
/-- A loop whose state is known ahead of each round. -/
theorem for_st {σ ρ : Type} (n : Nat) (L : Nat → Nat → σ → Option ρ) (st : Nat → σ) (r : ρ) (hs : ∀ k i, i < n → L (k + 1) i (st i) = L k (i + 1) (st (i + 1))) (he : ∀ k, L (k + 1) n (st n) = some r) :
    ∀ (k i : Nat), i ≤ n → n < i + k → L k i (st i) = some r
  | 0, i, hi, hk => by omega
  | k + 1, i, hi, hk => by
    by_cases h : i < n
    · rw [hs k i h]; exact for_st n L st r hs he k (i + 1) (by omega) (by omega)
    · have : i = n := by omega
      subst this; exact he k
/-- A loop that ends at the first place where p holds. -/
theorem for_find {ρ : Type} (n : Nat) (L : Nat → Nat → Option ρ) (p : Nat → Prop) (b : Nat → ρ) (r : ρ) (hs : ∀ k i, i < n → ¬ p i → L (k + 1) i = L k (i + 1)) (hb : ∀ k i, i < n → p i → L (k + 1) i = some (b i)) (he : ∀ k, L (k + 1) n = some r) :
    ∀ (k i : Nat), i ≤ n → n < i + k → (∃ j, i ≤ j ∧ j < n ∧ p j ∧ (∀ m, i ≤ m → m < j → ¬ p m) ∧ L k i = some (b j)) ∨ (∀ j, i ≤ j → j < n → ¬ p j) ∧ L k i = some r
  | 0, i, hi, hk => by omega
  | k + 1, i, hi, hk => by
    by_cases h : i < n
    · by_cases hp : p i
      · exact .inl ⟨i, Nat.le_refl _, h, hp, fun m h1 h2 => by omega, hb k i h hp⟩
      · rw [hs k i h hp]
        rcases for_find n L p b r hs hb he k (i + 1) (by omega) (by omega) with ⟨j, h1, h2, h3, h4, h5⟩ | ⟨h1, h2⟩
        · refine .inl ⟨j, by omega, h2, h3, fun m hm1 hm2 => ?_, h5⟩
          by_cases e : m = i
          · subst e; exact hp
          · exact h4 m (by omega) hm2
        · refine .inr ⟨fun j hj1 hj2 => ?_, h2⟩
          by_cases e : j = i
          · subst e; exact hp
          · exact h1 j (by omega) hj2
    · have : i = n := by omega
      subst this; exact .inr ⟨fun j h1 h2 => by omega, he k⟩
/-- The same for a Bool: do all places pass? -/
theorem for_all {n : Nat} {L : Nat → Nat → Option Bool} (p : Nat → Prop) (hs : ∀ k i, i < n → p i → L (k + 1) i = L k (i + 1)) (hb : ∀ k i, i < n → ¬ p i → L (k + 1) i = some false) (c : Bool) (he : ∀ k, L (k + 1) n = some c) {q : Bool}
    (hq : q = true ↔ (∀ j, j < n → p j) ∧ c = true) (k : Nat) (hk : n < k) : L k 0 = some q := by
  rcases for_find n L (fun i => ¬ p i) (fun _ => false) c (fun k i h hp => hs k i h (Classical.not_not.1 hp)) (fun k i h hp => hb k i h hp) he k 0 (Nat.zero_le _) (by omega) with ⟨j, _, h2, h3, _, h5⟩ | ⟨h1, h2⟩
  · rw [h5]; congr 1; symm
    rw [Bool.eq_false_iff]; intro hh; exact h3 ((hq.1 hh).1 j h2)
  · rw [h2]; congr 1
    have : ∀ j, j < n → p j := fun j hj => Classical.not_not.1 (h1 j (Nat.zero_le _) hj)
    rw [Bool.eq_iff_iff, hq]; exact ⟨fun h => ⟨this, h⟩, fun h => h.2⟩
/-- What is written, place by place. -/
theorem set_step {α : Type} (a b : List α) (i : Nat) (hi : i < a.length) (hb : b.length = a.length) : (a.take i ++ b.drop i).set i (a[i]'hi) = a.take (i + 1) ++ b.drop (i + 1) := by
  rw [List.set_append_right _ _ (by simp; omega), List.length_take, Nat.min_eq_left (by omega), Nat.sub_self, List.take_succ_eq_append_getElem hi, List.append_assoc]
  congr 1
  rw [List.drop_eq_getElem_cons (by omega)]
  rfl
theorem snoc_step {α : Type} (a : List α) (i : Nat) (hi : i < a.length) : a.take i ++ [a[i]'hi] = a.take (i + 1) := by
  rw [List.take_succ_eq_append_getElem hi]
theorem eq_iff_all (a b : List Int) (h : a.length = b.length) : a = b ↔ ∀ j, j < a.length → rd a (j : Int) = rd b (j : Int) := by
  constructor
  · rintro rfl j _; rfl
  · intro hh; refine List.ext_getElem h (fun j h1 h2 => ?_)
    have := hh j h1
    rwa [rd_nat a j h1, rd_nat b j h2] at this
/-- What marks hold: s, s + 1, .. -/
def iota (s : Int) (n : Nat) : List Int := (List.range n).map fun (i : Nat) => s + (i : Int)
theorem iota_length (s : Int) (n : Nat) : (iota s n).length = n := by simp [iota]
theorem iota_get (s : Int) (n i : Nat) (h : i < n) : (iota s n)[i]'(by rw [iota_length]; exact h) = s + i := by simp [iota]
/-- The same as bytes. -/
def iota8 (s : Int) (n : Nat) : List Int := (List.range n).map fun (i : Nat) => (s + (i : Int)) % 256
theorem iota8_length (s : Int) (n : Nat) : (iota8 s n).length = n := by simp [iota8]
theorem iota8_get (s : Int) (n i : Nat) (h : i < n) : (iota8 s n)[i]'(by rw [iota8_length]; exact h) = (s + i) % 256 := by simp [iota8]
theorem wraps_i64 (n : Int) (h0 : 0 ≤ n) (h1 : n < 2 ^ 62) : IntKind.i64.wrap n = n := by rw [IntKind.wrap_i64]; omega
theorem and255 (x : Int) (h0 : 0 ≤ x) (h : x ≤ 65535) : Go.bits .and .i64 x 255 = x % 256 := bits_mask .i64 62 (by decide) wraps_i64 8 (by decide) x h0 (by omega)
/-- Does a search find something. -/
theorem idx_any {n : Nat} (L : Nat → Nat → Option Int) (q : Nat → Bool) (hs : ∀ k i, i < n → q i = false → L (k + 1) i = L k (i + 1)) (hb : ∀ k i, i < n → q i = true → L (k + 1) i = some (i : Int)) (he : ∀ k, L (k + 1) n = some (-1)) (r : Bool)
    (hr : r = true ↔ ∃ j, j < n ∧ q j = true) (k : Nat) (hk : n < k) : ∃ v, L k 0 = some v ∧ decide (v ≥ 0) = r := by
  rcases for_find n L (fun i => q i = true) (fun i => (i : Int)) (-1) (fun k i h hp => hs k i h (by simpa using hp)) hb he k 0 (Nat.zero_le _) (by omega) with ⟨j, _, h2, h3, _, h5⟩ | ⟨h1, h2⟩
  · refine ⟨_, h5, ?_⟩
    rw [decide_eq_true (by omega : (j : Int) ≥ 0)]; exact (hr.2 ⟨j, h2, h3⟩).symm
  · refine ⟨_, h2, ?_⟩
    rw [decide_eq_false (by omega : ¬ (-1 : Int) ≥ 0)]; symm; rw [Bool.eq_false_iff]; intro hh
    obtain ⟨j, hj, hq⟩ := hr.1 hh
    exact h1 j (Nat.zero_le _) hj hq
/-- A count that goes down, item by item, and stops below nothing. -/
theorem sz_loop {n C : Nat} {M : Int} (L : Nat → Nat → Int → Option Int) (P : Nat → Prop) (hs : ∀ k i a, i < n → C ≤ k → 0 ≤ a → a ≤ M → (∃ r, r < 0 ∧ L (k + 1) i a = some r) ∨ ∃ t, 0 ≤ t ∧ t ≤ a ∧ P i ∧ L (k + 1) i a = L k (i + 1) t)
    (he : ∀ k a, L (k + 1) n a = some a) : ∀ (m i : Nat) (a : Int), i ≤ n → n < i + m → 0 ≤ a → a ≤ M → ∃ r, L (m + C) i a = some r ∧ r ≤ a ∧ (0 ≤ r → ∀ j, i ≤ j → j < n → P j)
  | 0, i, a, hi, hm, _, _ => by omega
  | m + 1, i, a, hi, hm, h0, h1 => by
    rw [show m + 1 + C = (m + C) + 1 by omega]
    by_cases h : i < n
    · rcases hs (m + C) i a h (by omega) h0 h1 with ⟨r, hr, e⟩ | ⟨t, ht0, ht, hp, e⟩
      · exact ⟨r, e, by omega, fun h => by omega⟩
      · obtain ⟨r, e2, hr, hq⟩ := sz_loop L P hs he m (i + 1) t (by omega) (by omega) ht0 (by omega)
        refine ⟨r, by rw [e, e2], by omega, fun h0 j hj1 hj2 => ?_⟩
        by_cases c : j = i
        · subst c; exact hp
        · exact hq h0 j (by omega) hj2
    · have : i = n := by omega
      subst this
      exact ⟨a, he _ _, Int.le_refl _, fun _ j h1 h2 => by omega⟩
/-- A list made place by place. -/
theorem to_loop {α : Type} {C : Nat} (v z : List α) (hz : z.length = v.length) (L : Nat → Nat → List α → Option (List α)) (hs : ∀ k i s (hi : i < v.length), C ≤ k → s.length = v.length → L (k + 1) i s = L k (i + 1) (s.set i (v[i]'hi)))
    (he : ∀ k s, L (k + 1) v.length s = some s) (k : Nat) (hk : v.length + C < k) : L k 0 z = some v := by
  have h := for_st v.length (fun k' i (s : List α) => L (k' + C) i s) (fun i => v.take i ++ z.drop i) v ?_ ?_ (k - C) 0 (Nat.zero_le _) (by omega)
  · rw [show k - C + C = k by omega] at h; simpa using h
  · intro k' i hi
    rw [show k' + 1 + C = (k' + C) + 1 by omega, hs _ _ _ hi (by omega) (by simp; omega), set_step _ _ _ hi hz]
  · intro k'
    rw [show k' + 1 + C = (k' + C) + 1 by omega, he, List.take_of_length_le (Nat.le_refl _), List.drop_of_length_le (by omega), List.append_nil]
/-- Equal, place by place. -/
theorem same_loop {n C : Nat} (L : Nat → Nat → Option Bool) (hs : ∀ k i, i < n → C ≤ k → L (k + 1) i = L k (i + 1)) (he : ∀ k, L (k + 1) n = some true) (k : Nat) (hk : n + C < k) : L k 0 = some true := by
  have h := for_st n (fun k' i (_ : Unit) => L (k' + C) i) (fun _ => ()) true ?_ ?_ (k - C) 0 (Nat.zero_le _) (by omega)
  · rw [show k - C + C = k by omega] at h; exact h
  · intro k' i hi; rw [show k' + 1 + C = (k' + C) + 1 by omega, hs _ _ hi (by omega)]
  · intro k'; rw [show k' + 1 + C = (k' + C) + 1 by omega, he]
def wordsB (l : List Int) (n : Int) : Bool := decide ((l.length : Int) = n) && l.all (fun x => decide (0 ≤ x ∧ x ≤ 65535))
theorem wordsB_mem {l : List Int} {n : Int} (h : wordsB l n = true) (x : Int) (hx : x ∈ l) : 0 ≤ x ∧ x ≤ 65535 := by
  unfold wordsB at h; rw [Bool.and_eq_true, List.all_eq_true] at h; exact of_decide_eq_true (h.2 x hx)
/-- Is it a hart: four words, a cell, a state. -/
def hartB (regs : List Int) (pc st : Int) : Bool := wordsB regs 4 && (decide (0 ≤ pc ∧ pc ≤ 23) && decide (0 ≤ st ∧ st ≤ 2))
theorem ite_some' (b c : Bool) : (if b = true then some c else some false) = some (b && c) := by cases b <;> rfl
theorem hartB_len {r : List Int} {p s : Int} (h : hartB r p s = true) : r.length = 4 := by
  unfold hartB wordsB at h; rw [Bool.and_eq_true, Bool.and_eq_true] at h; have := of_decide_eq_true h.1.1; omega
theorem wordsB_24 {l : List Int} (h : wordsB l 24 = true) : l.length = 24 := by unfold wordsB at h; rw [Bool.and_eq_true] at h; have := of_decide_eq_true h.1; omega
theorem tmod_pos (n c : Int) (h : 0 ≤ n) : Int.tmod n c = n % c := Int.tmod_eq_emod_of_nonneg h
theorem tmod_neg (n c : Int) (h : n < 0) : Int.tmod n c = -((-n) % c) := by
  rw [← Int.tmod_eq_emod_of_nonneg (by omega : 0 ≤ -n), Int.neg_tmod, Int.neg_neg]
theorem tdiv_pos (n c : Int) (h : 0 ≤ n) : Int.tdiv n c = n / c := Int.tdiv_eq_ediv_of_nonneg h
/-- A remainder brought up from below nothing. -/
theorem tmod_up (n c : Int) (hc : 0 < c) (hb : c ≤ 4294967296) : Int.tmod (Int.tmod n c + c) c = n % c := by
  have h1 := Int.emod_nonneg n (by omega : c ≠ 0)
  have h2 := Int.emod_lt_of_pos n hc
  rcases Int.lt_or_le n 0 with h | h
  · rw [tmod_neg n c h]
    have h3 := Int.emod_nonneg (-n) (by omega : c ≠ 0)
    have h4 := Int.emod_lt_of_pos (-n) hc
    rw [tmod_pos _ _ (by omega), Int.add_emod_right, ← Int.sub_emod_right]
    have := Int.emod_add_mul_ediv (-n) c
    have e : -(-n % c) - c = n + c * ((-n) / c - 1) := by
      have : n = -(-n % c) - c * ((-n) / c) := by omega
      rw [Int.mul_sub]; omega
    rw [e, Int.add_mul_emod_self_left]
  · rw [tmod_pos n c h, tmod_pos _ _ (by omega), Int.add_emod_right, Int.emod_emod_of_dvd _ (Int.dvd_refl c)]
theorem tmod_bd (n c : Int) (hc : 0 < c) : -c < Int.tmod n c ∧ Int.tmod n c < c := by
  rcases Int.lt_or_le n 0 with h | h
  · rw [tmod_neg n c h]
    have h3 := Int.emod_nonneg (-n) (by omega : c ≠ 0)
    have h4 := Int.emod_lt_of_pos (-n) hc
    omega
  · rw [tmod_pos n c h]
    have h3 := Int.emod_nonneg n (by omega : c ≠ 0)
    have h4 := Int.emod_lt_of_pos n hc
    omega
/-- for_st, where some rounds stay over. -/
theorem for_stC {σ ρ : Type} (C n : Nat) (L : Nat → Nat → σ → Option ρ) (st : Nat → σ) (r : ρ) (hs : ∀ k i, C ≤ k → i < n → L (k + 1) i (st i) = L k (i + 1) (st (i + 1))) (he : ∀ k, C ≤ k → L (k + 1) n (st n) = some r) :
    ∀ (k i : Nat), i ≤ n → n + C < i + k → L k i (st i) = some r
  | 0, i, hi, hk => by omega
  | k + 1, i, hi, hk => by
    by_cases h : i < n
    · rw [hs k i (by omega) h]; exact for_stC C n L st r hs he k (i + 1) (by omega) (by omega)
    · have : i = n := by omega
      subst this; exact he k (by omega)
theorem l1In_eq (x lo hi : Int) : spec_l1In.f x lo hi = some (decide (lo ≤ x ∧ x ≤ hi)) := by
  unfold spec_l1In.f
  by_cases h : x ≥ lo
  · rw [if_pos h]; have h' : lo ≤ x := h; simp [h']
  · rw [if_neg h]; have h' : ¬ lo ≤ x := h; simp [h']
theorem from_eq (x lo hi : Int) : impl_from.f x lo hi = some (decide (lo ≤ x ∧ x ≤ hi)) := by
  unfold impl_from.f
  by_cases h : x ≥ lo
  · rw [if_pos h]; have h' : lo ≤ x := h; simp [h']
  · rw [if_neg h]; have h' : ¬ lo ≤ x := h; simp [h']
theorem isWord_eq (x : Int) : impl_isWord.f x = some (decide (0 ≤ x ∧ x ≤ 65535)) := by
  unfold impl_isWord.f; rw [from_eq]; rfl
theorem l1Words_eq (l : List Int) (n : Int) (hl : l.length ≤ 2097152) (k : Nat) (hk : l.length < k) : spec_l1Words.f k l n = some (wordsB l n) := by
  unfold spec_l1Words.f
  refine for_all (L := fun k i => spec_l1Words.l0 k l n (i : Int)) (n := l.length) (fun j => 0 ≤ rd l (j : Int) ∧ rd l (j : Int) ≤ 65535) ?_ ?_ (decide ((l.length : Int) = n)) ?_ ?_ k hk
  · intro k i hi hp
    simp only [spec_l1Words.l0]
    rw [if_pos (by omega), if_pos (by omega), l1In_eq, decide_eq_true hp, Option.bind_some, if_pos rfl, wrap_succ (by omega)]
  · intro k i hi hp
    simp only [spec_l1Words.l0]
    rw [if_pos (by omega), if_pos (by omega), l1In_eq, decide_eq_false hp, Option.bind_some, if_neg (by simp)]
  · intro k
    simp only [spec_l1Words.l0]
    rw [if_neg (by omega)]; rfl
  · unfold wordsB
    rw [Bool.and_eq_true, List.all_eq_true]
    constructor
    · rintro ⟨h1, h2⟩; exact ⟨fun j hj => of_decide_eq_true (h2 _ (rd_mem l j hj)), h1⟩
    · rintro ⟨h1, h2⟩; refine ⟨h2, fun x hx => ?_⟩
      obtain ⟨j, hj, rfl⟩ := List.getElem_of_mem hx
      have := h1 j hj; rw [rd_nat l j hj] at this; exact decide_eq_true this
theorem wordsOk_eq (l : List Int) (n : Int) (hl : l.length ≤ 2097152) (k : Nat) (hk : l.length < k) : impl_wordsOk.f k l n = some (wordsB l n) := by
  unfold impl_wordsOk.f
  by_cases h : (l.length : Int) = n
  · rw [if_pos h]
    unfold slices_ContainsFunc_at_impl_wordsOk_1.f slices_IndexFunc_at_impl_wordsOk_1.f
    have hf : ∀ x, impl_wordsOk_1.f x = some (!decide (0 ≤ x ∧ x ≤ 65535)) := fun x => by unfold impl_wordsOk_1.f; rw [isWord_eq]; rfl
    have hs : ∀ k i, i < l.length → ¬ ¬ (0 ≤ rd l (i : Int) ∧ rd l (i : Int) ≤ 65535) → slices_IndexFunc_at_impl_wordsOk_1.l0 (k + 1) l (l.length : Int) (i : Int) = slices_IndexFunc_at_impl_wordsOk_1.l0 k l (l.length : Int) ((i + 1 : Nat) : Int) := by
      intro k i hi hp
      simp only [slices_IndexFunc_at_impl_wordsOk_1.l0]
      rw [if_pos (by omega), if_pos (by omega), if_pos (by omega), hf, decide_eq_true (Classical.not_not.1 hp), Option.bind_some, if_neg (by simp), wrap_succ (by omega)]
    have hb : ∀ k i, i < l.length → ¬ (0 ≤ rd l (i : Int) ∧ rd l (i : Int) ≤ 65535) → slices_IndexFunc_at_impl_wordsOk_1.l0 (k + 1) l (l.length : Int) (i : Int) = some (i : Int) := by
      intro k i hi hp
      simp only [slices_IndexFunc_at_impl_wordsOk_1.l0]
      rw [if_pos (by omega), if_pos (by omega), if_pos (by omega), hf, decide_eq_false hp, Option.bind_some, if_pos (by simp)]
    have he : ∀ k, slices_IndexFunc_at_impl_wordsOk_1.l0 (k + 1) l (l.length : Int) (l.length : Int) = some (-1) := by
      intro k
      simp only [slices_IndexFunc_at_impl_wordsOk_1.l0]
      rw [if_neg (by omega)]
    rcases for_find l.length (fun k i => slices_IndexFunc_at_impl_wordsOk_1.l0 k l (l.length : Int) (i : Int)) (fun j => ¬ (0 ≤ rd l (j : Int) ∧ rd l (j : Int) ≤ 65535)) (fun j => (j : Int)) (-1) hs hb he k 0 (Nat.zero_le _) (by omega) with ⟨j, _, h2, h3, _, h5⟩ | ⟨h1, h2⟩
    · have h5' : slices_IndexFunc_at_impl_wordsOk_1.l0 k l (l.length : Int) 0 = some (j : Int) := h5
      rw [h5']
      simp only [Option.bind_some]; congr 1; symm
      rw [decide_eq_true (by omega : (j : Int) ≥ 0), Bool.not_true, wordsB, Bool.and_eq_false_iff]; right
      rw [Bool.eq_false_iff]; intro hh
      exact h3 (of_decide_eq_true (List.all_eq_true.1 hh _ (rd_mem l j h2)))
    · have h2' : slices_IndexFunc_at_impl_wordsOk_1.l0 k l (l.length : Int) 0 = some (-1) := h2
      rw [h2']
      simp only [Option.bind_some]; congr 1; symm
      rw [decide_eq_false (by omega : ¬ (-1 : Int) ≥ 0), Bool.not_false, wordsB, decide_eq_true h, Bool.true_and, List.all_eq_true]
      intro x hx
      obtain ⟨j, hj, rfl⟩ := List.getElem_of_mem hx
      have := Classical.not_not.1 (h1 j (Nat.zero_le _) hj); rw [rd_nat l j hj] at this; exact decide_eq_true this
  · rw [if_neg h, wordsB, decide_eq_false h, Bool.false_and]
theorem memOk_eq (l : List Int) (hl : l.length ≤ 2097152) (k : Nat) (hk : l.length < k) : impl_memOk.f k l = some (wordsB l 24) := by
  unfold impl_memOk.f; rw [wordsOk_eq l 24 hl k hk]; rfl
/-- A number in decimal digits, of at most f of them. -/
def dgF : Nat → Nat → ByteArray
  | 0, _ => ⟨#[]⟩
  | f + 1, n => if n < 10 then ⟨#[UInt8.ofNat (48 + n)]⟩ else dgF f (n / 10) ++ ⟨#[UInt8.ofNat (48 + n % 10)]⟩
def dg (n : Nat) : ByteArray := dgF 20 n
theorem dgF_size : ∀ f n, (dgF f n).size ≤ f
  | 0, _ => Nat.le_refl _
  | f + 1, n => by
    unfold dgF
    by_cases h : n < 10
    · rw [if_pos h]; show 1 ≤ f + 1; omega
    · rw [if_neg h, ByteArray.size_append]; have := dgF_size f (n / 10); show _ + 1 ≤ _; omega
theorem enc_digit (d : Nat) (h : d < 10) : Go.Utf8.encode (wrap32 (wrap64 (48 + (d : Int)))) = ⟨#[UInt8.ofNat (48 + d)]⟩ := by
  have e : wrap32 (wrap64 (48 + (d : Int))) = 48 + (d : Int) := by unfold wrap32 wrap64; omega
  rw [e]
  have hc : d = 0 ∨ d = 1 ∨ d = 2 ∨ d = 3 ∨ d = 4 ∨ d = 5 ∨ d = 6 ∨ d = 7 ∨ d = 8 ∨ d = 9 := by omega
  rcases hc with rfl | rfl | rfl | rfl | rfl | rfl | rfl | rfl | rfl | rfl <;> simp [Go.Utf8.encode, Go.Utf8.valid]
theorem digits_f : ∀ (f : Nat) (n : Nat), f ≤ 20 → n < 10 ^ f → n < 9223372036854775808 → 0 < f → ∀ k, 2 * f < k → impl_digits.f k (n : Int) = some (dgF f n)
  | 0, n, _, _, _, h, _, _ => by omega
  | f + 1, n, hf, hn, hb, _, k, hk => by
    obtain ⟨k, rfl⟩ : ∃ m, k = m + 2 := ⟨k - 2, by omega⟩
    simp only [impl_digits.f, impl_digits.j0, dgF]
    rw [if_neg (by omega), if_neg (by simp), if_neg (by omega)]
    by_cases h : n < 10
    · rw [if_pos (by omega), if_pos h, enc_digit n h]
    · have hd : Int.tdiv (n : Int) 10 = ((n / 10 : Nat) : Int) := by rw [Int.tdiv_eq_ediv_of_nonneg (by omega)]; omega
      have hm : Int.tmod (n : Int) 10 = ((n % 10 : Nat) : Int) := by rw [Int.tmod_eq_emod_of_nonneg (by omega)]; omega
      have hp : n / 10 < 10 ^ f := by rw [Nat.pow_succ] at hn; omega
      have hf0 : 0 < f := by
        rcases Nat.eq_zero_or_pos f with e | e
        · subst e; simp at hp; omega
        · exact e
      rw [if_neg (by omega), if_neg h, hd, hm, wrap_small (by omega) (by omega), digits_f f (n / 10) (by omega) hp (by omega) hf0 k (by omega), Option.bind_some, enc_digit (n % 10) (by omega), if_pos (by have := dgF_size f (n / 10); show _ + 1 ≤ _; omega)]
theorem digits_eq (n : Int) (h0 : 0 ≤ n) (hb : n < 9223372036854775808) (k : Nat) (hk : 40 < k) : impl_digits.f k n = some (dg n.toNat) := by
  have h := digits_f 20 n.toNat (by omega) (by omega) (by omega) (by omega) k (by omega)
  rwa [Int.toNat_of_nonneg h0] at h
theorem dg_size (n : Nat) : (dg n).size ≤ 20 := dgF_size 20 n
theorem str_digit (d : Nat) (h : d < 10) : strOfNums [wrap64 (48 + (d : Int)) % 256] = ⟨#[UInt8.ofNat (48 + d)]⟩ := by
  have e : wrap64 (48 + (d : Int)) % 256 = 48 + (d : Int) := by unfold wrap64; omega
  rw [e]
  have hc : d = 0 ∨ d = 1 ∨ d = 2 ∨ d = 3 ∨ d = 4 ∨ d = 5 ∨ d = 6 ∨ d = 7 ∨ d = 8 ∨ d = 9 := by omega
  rcases hc with rfl | rfl | rfl | rfl | rfl | rfl | rfl | rfl | rfl | rfl <;> rfl
theorem l16Digits_l : ∀ (f : Nat) (n : Nat) (acc : ByteArray), f ≤ 20 → 0 < n → n < 10 ^ f → n < 9223372036854775808 → acc.size ≤ 1000 - 20 + f * 0 + (20 - f) → ∀ k, f < k → spec_l16Digits.l0 k (n : Int) acc = some (dgF f n ++ acc)
  | 0, n, _, _, h0, hn, _, _, _, _ => by simp at hn; omega
  | f + 1, n, acc, hf, h0, hn, hb, ha, k, hk => by
    obtain ⟨k, rfl⟩ : ∃ m, k = m + 1 := ⟨k - 1, by omega⟩
    have hd : Int.tdiv (n : Int) 10 = ((n / 10 : Nat) : Int) := by rw [Int.tdiv_eq_ediv_of_nonneg (by omega)]; omega
    have hm : Int.tmod (n : Int) 10 = ((n % 10 : Nat) : Int) := by rw [Int.tmod_eq_emod_of_nonneg (by omega)]; omega
    simp only [spec_l16Digits.l0, dgF]
    rw [if_pos (by omega), hd, hm, Option.bind_some, str_digit (n % 10) (by omega), if_pos (by show 1 + _ ≤ _; omega), wrap_small (by omega) (by omega)]
    by_cases h : n < 10
    · rw [if_pos h, show n / 10 = 0 by omega, show n % 10 = n by omega]
      obtain ⟨k, rfl⟩ : ∃ m, k = m + 1 := ⟨k - 1, by omega⟩
      simp only [spec_l16Digits.l0]
      rw [if_neg (by omega)]
    · have hp : n / 10 < 10 ^ f := by rw [Nat.pow_succ] at hn; omega
      rw [if_neg h, l16Digits_l f (n / 10) _ (by omega) (by omega) hp (by omega) (by rw [ByteArray.size_append]; show 1 + _ ≤ _; omega) k (by omega), ByteArray.append_assoc]
theorem l16Digits_eq (n : Int) (h0 : 0 ≤ n) (hb : n < 9223372036854775808) (k : Nat) (hk : 20 < k) : spec_l16Digits.f k n = some (dg n.toNat) := by
  unfold spec_l16Digits.f
  by_cases h : n ≤ 0
  · have : n = 0 := by omega
    subst this; rw [if_pos h]; rfl
  · rw [if_neg h]
    have h2 := l16Digits_l 20 n.toNat ⟨#[]⟩ (by omega) (by omega) (by omega) (by omega) (by show 0 ≤ _; omega) k hk
    rw [Int.toNat_of_nonneg h0] at h2
    have e : dgF 20 n.toNat ++ (⟨#[]⟩ : ByteArray) = dgF 20 n.toNat := ByteArray.append_empty
    rw [h2, e]; rfl
def chOne (a b : List Int) (i : Nat) : ByteArray :=
  dg i ++ (⟨#[58]⟩ : ByteArray) ++ dg (rd a (i : Int)).toNat ++ (⟨#[62]⟩ : ByteArray) ++ dg (rd b (i : Int)).toNat ++ (⟨#[10]⟩ : ByteArray)
/-- What changed, up to a cell. -/
def chText (a b : List Int) : Nat → ByteArray
  | 0 => ⟨#[]⟩
  | i + 1 => if rd a (i : Int) = rd b (i : Int) then chText a b i else chText a b i ++ chOne a b i
theorem chOne_size (a b : List Int) (i : Nat) : (chOne a b i).size ≤ 63 := by
  unfold chOne; simp only [ByteArray.size_append]
  have h1 := dg_size i; have h2 := dg_size (rd a (i : Int)).toNat; have h3 := dg_size (rd b (i : Int)).toNat
  show _ + 1 + _ + 1 + _ + 1 ≤ 63; omega
theorem chText_size (a b : List Int) : ∀ i, (chText a b i).size ≤ 63 * i
  | 0 => Nat.le_refl _
  | i + 1 => by
    have h := chText_size a b i; have h1 := chOne_size a b i
    unfold chText
    by_cases c : rd a (i : Int) = rd b (i : Int)
    · rw [if_pos c]; omega
    · rw [if_neg c, ByteArray.size_append]; omega
theorem sz1 (c : UInt8) : (⟨#[c]⟩ : ByteArray).size = 1 := rfl
theorem implChangedText_eq (a b : List Int) (ha : a.length ≤ 1048576) (hb : b.length ≤ 1048576) (k : Nat) (hk : 1048578 + 100 < k) :
    impl_ChangedText.f k a b = some (if wordsB a 24 = true ∧ wordsB b 24 = true then chText a b 24 else ⟨#[]⟩) := by
  obtain ⟨k, rfl⟩ : ∃ m, k = m + 1 := ⟨k - 1, by omega⟩
  unfold impl_ChangedText.f
  rw [memOk_eq a (by omega) _ (by omega), Option.bind_some]
  by_cases wa : wordsB a 24 = true
  · rw [if_pos wa, memOk_eq b (by omega) _ (by omega), Option.bind_some]
    simp only [impl_ChangedText.j0]
    by_cases wb : wordsB b 24 = true
    · rw [if_neg (by simp [wb]), if_pos ⟨wa, wb⟩]
      have la : a.length = 24 := by unfold wordsB at wa; rw [Bool.and_eq_true] at wa; have := of_decide_eq_true wa.1; omega
      have lb : b.length = 24 := by unfold wordsB at wb; rw [Bool.and_eq_true] at wb; have := of_decide_eq_true wb.1; omega
      have h := for_st 24 (fun k' i (s : ByteArray) => impl_ChangedText.l0 (k' + 60) a b s (a.length : Int) (i : Int)) (fun i => chText a b i) (chText a b 24) ?_ ?_ (k - 60) 0 (Nat.zero_le _) (by omega)
      · have e : k - 60 + 60 = k := by omega
        rw [e] at h; exact h
      · intro k' i hi
        have hs := chText_size a b i
        have hA := wordsB_mem wa _ (rd_mem a i (by omega)); have hB := wordsB_mem wb _ (rd_mem b i (by omega))
        have s1 := dg_size i; have s2 := dg_size (rd a (i : Int)).toNat; have s3 := dg_size (rd b (i : Int)).toNat
        have ed : ∀ n : Int, 0 ≤ n → n ≤ 65535 → impl_digits.f (k' + 60) n = some (dg n.toNat) := fun n h0 h1 => digits_eq n h0 (by omega) _ (by omega)
        rw [show k' + 1 + 60 = (k' + 60) + 1 by omega, impl_ChangedText.l0, chText]
        rw [if_pos (by omega), if_pos (by omega), if_pos (by omega), if_pos (by omega), wrap_succ (by omega)]
        by_cases c : rd a (i : Int) = rd b (i : Int)
        · rw [if_pos c, if_pos c]
        · rw [if_neg c, if_neg c, ed _ (by omega) (by omega), Option.bind_some, ed _ hA.1 hA.2, Option.bind_some, ed _ hB.1 hB.2, Option.bind_some]
          simp only [ByteArray.size_append, sz1, Int.toNat_natCast]
          rw [if_pos (by omega), if_pos (by omega), if_pos (by omega), if_pos (by omega), if_pos (by omega), if_pos (by omega)]
          rfl
      · intro k'
        rw [show k' + 1 + 60 = (k' + 60) + 1 by omega, impl_ChangedText.l0]
        rw [if_neg (by omega)]
    · have wb' : wordsB b 24 = false := by simpa using wb
      rw [if_pos (by rw [wb']; rfl), if_neg (by rintro ⟨_, h⟩; exact wb h)]
  · rw [if_neg wa]
    simp only [impl_ChangedText.j0, if_true]
    rw [if_neg (by rintro ⟨h, _⟩; exact wa h)]
theorem specChangedText_eq (a b : List Int) (ha : a.length ≤ 1048576) (hb : b.length ≤ 1048576) (k : Nat) (hk : 3000000 < k) :
    spec_ChangedText.f k a b = some (if wordsB a 24 = true ∧ wordsB b 24 = true then chText a b 24 else ⟨#[]⟩) := by
  unfold spec_ChangedText.f
  by_cases w : wordsB a 24 = true ∧ wordsB b 24 = true
  · obtain ⟨wa, wb⟩ := w
    rw [if_pos ⟨wa, wb⟩]
    have la : a.length = 24 := by unfold wordsB at wa; rw [Bool.and_eq_true] at wa; have := of_decide_eq_true wa.1; omega
    have lb : b.length = 24 := by unfold wordsB at wb; rw [Bool.and_eq_true] at wb; have := of_decide_eq_true wb.1; omega
    have h := for_st 24 (fun k' i (s : ByteArray) => spec_ChangedText.l0 (2 * k' + (k - 60)) a b s (i : Int)) (fun i => chText a b i) (chText a b 24) ?_ ?_ 30 0 (Nat.zero_le _) (by omega)
    · have e : 2 * 30 + (k - 60) = k := by omega
      simp only [e] at h; exact h
    · intro k' i hi
      have hs := chText_size a b i
      have hA := wordsB_mem wa _ (rd_mem a i (by omega)); have hB := wordsB_mem wb _ (rd_mem b i (by omega))
      have s1 := dg_size i; have s2 := dg_size (rd a (i : Int)).toNat; have s3 := dg_size (rd b (i : Int)).toNat
      have ed : ∀ n : Int, 0 ≤ n → n ≤ 65535 → spec_l16Digits.f (2 * k' + (k - 60)) n = some (dg n.toNat) := fun n h0 h1 => l16Digits_eq n h0 (by omega) _ (by omega)
      rw [show 2 * (k' + 1) + (k - 60) = (2 * k' + (k - 60)) + 1 + 1 by omega, spec_ChangedText.l0]
      rw [if_pos (by omega), l1Words_eq a 24 (by omega) _ (by omega), Option.bind_some, if_pos wa, l1Words_eq b 24 (by omega) _ (by omega), Option.bind_some]
      rw [spec_ChangedText.j1, chText, if_pos wb, if_pos (by omega), if_pos (by omega), if_pos (by omega), wrap_succ (by omega)]
      by_cases c : rd a (i : Int) = rd b (i : Int)
      · rw [if_pos c, if_pos c]
      · rw [if_neg c, if_neg c, ed _ (by omega) (by omega), Option.bind_some, ed _ hA.1 hA.2, Option.bind_some, ed _ hB.1 hB.2, Option.bind_some]
        simp only [ByteArray.size_append, sz1, Int.toNat_natCast]
        rw [if_pos (by omega), if_pos (by omega), if_pos (by omega), if_pos (by omega), if_pos (by omega), if_pos (by omega)]
        simp only [chOne, ByteArray.append_assoc]
    · intro k'
      rw [show 2 * (k' + 1) + (k - 60) = (2 * k' + (k - 60)) + 1 + 1 by omega, spec_ChangedText.l0]
      rw [if_neg (by omega), spec_ChangedText.j1, if_neg (by simp)]
  · rw [if_neg w]
    obtain ⟨k, rfl⟩ : ∃ m, k = m + 2 := ⟨k - 2, by omega⟩
    simp only [spec_ChangedText.l0]
    rw [if_pos (by omega), l1Words_eq a 24 (by omega) _ (by omega), Option.bind_some]
    by_cases wa : wordsB a 24 = true
    · have wb : wordsB b 24 = false := by
        rw [Bool.eq_false_iff]; exact fun h => w ⟨wa, h⟩
      rw [if_pos wa, l1Words_eq b 24 (by omega) _ (by omega), Option.bind_some, wb]
      simp only [spec_ChangedText.j1, Bool.false_eq_true, if_false]
    · rw [if_neg wa]
      simp only [spec_ChangedText.j1, Bool.false_eq_true, if_false]
theorem joinB_one (x s : ByteArray) : joinB [x] s = x := by
  apply ByteArray.ext
  simp [joinB, Lib.join_one]
theorem joinB_more (x y s : ByteArray) (r : List ByteArray) : joinB (x :: y :: r) s = (x ++ s) ++ joinB (y :: r) s := by
  apply ByteArray.ext
  simp [joinB, Lib.join, List.intercalate, ByteArray.data_append]
def dgI (x : Int) : ByteArray := dg x.toNat
theorem dgI_size (x : Int) : (dgI x).size ≤ 20 := dg_size _
theorem numbers_eq (l : List Int) (hl : l.length ≤ 2097152) (hx : ∀ x ∈ l, 0 ≤ x ∧ x < 9223372036854775808) (k : Nat) (hk : l.length + 60 < k) : impl_numbers.f k l = some (l.map dgI) := by
  unfold impl_numbers.f
  have h := for_st l.length (fun k' i (s : List ByteArray) => impl_numbers.l0 (k' + 50) s l (l.length : Int) (i : Int)) (fun i => (l.map dgI).take i) (l.map dgI) ?_ ?_ (k - 50) 0 (Nat.zero_le _) (by omega)
  · rw [show k - 50 + 50 = k by omega] at h; simpa using h
  · intro k' i hi
    have hb := hx _ (rd_mem l i hi)
    have e : (l.map dgI).take (i + 1) = (l.map dgI).take i ++ [dgI (rd l (i : Int))] := by
      rw [List.take_succ_eq_append_getElem (by simpa using hi), rd_nat l i hi]; simp
    rw [show k' + 1 + 50 = (k' + 50) + 1 by omega, impl_numbers.l0, if_pos (by omega), if_pos (by omega), if_pos (by omega), wrap_succ (by omega), e, digits_eq _ hb.1 hb.2 _ (by omega), Option.bind_some, if_pos (by rw [List.length_take]; simp; omega)]
    rfl
  · intro k'
    rw [show k' + 1 + 50 = (k' + 50) + 1 by omega, impl_numbers.l0, if_neg (by omega)]
    rw [List.take_of_length_le (by simp)]
theorem joinI_size (s : ByteArray) (h : s.size = 1) : ∀ l : List Int, (joinB (l.map dgI) s).size ≤ 21 * l.length
  | [] => by show (joinB [] s).size ≤ 0; exact Nat.le_refl 0
  | [a] => by show (joinB [dgI a] s).size ≤ 21; rw [joinB_one]; have := dgI_size a; omega
  | a :: b :: l => by
    have h1 := joinI_size s h (b :: l); have h2 := dgI_size a
    rw [List.map_cons, List.map_cons] at *; rw [joinB_more, ByteArray.size_append, ByteArray.size_append]
    simp only [List.length_cons] at h1 ⊢
    omega
def spB (l : List Int) : ByteArray := joinB (l.map dgI) (⟨#[32]⟩ : ByteArray)
theorem spB_size (l : List Int) : (spB l).size ≤ 21 * l.length := joinI_size _ rfl l
theorem spaced_eq (l : List Int) (hl : l.length ≤ 2097152) (hx : ∀ x ∈ l, 0 ≤ x ∧ x < 9223372036854775808) (k : Nat) (hk : l.length + 60 < k) : impl_spaced.f k l = some (spB l) := by
  unfold impl_spaced.f
  have h := spB_size l
  rw [numbers_eq l hl hx k hk, Option.bind_some]
  unfold strings_Join.f
  rw [if_pos ⟨by rw [List.length_map]; omega, by show (spB l).size ≤ _; omega⟩]; rfl
/-- Memory as text, up to a cell. -/
def memT (l : List Int) : Nat → ByteArray
  | 0 => ⟨#[]⟩
  | i + 1 => memT l i ++ (dgI (rd l (i : Int)) ++ (if i % 4 = 3 then (⟨#[10]⟩ : ByteArray) else (⟨#[32]⟩ : ByteArray)))
theorem memT_size (l : List Int) : ∀ i, (memT l i).size ≤ 21 * i
  | 0 => Nat.le_refl _
  | i + 1 => by
    have h := memT_size l i; have h1 := dgI_size (rd l (i : Int))
    unfold memT
    rw [ByteArray.size_append, ByteArray.size_append]
    by_cases c : i % 4 = 3
    · rw [if_pos c]; show _ + (_ + 1) ≤ _; omega
    · rw [if_neg c]; show _ + (_ + 1) ≤ _; omega
theorem cut4 (l : List Int) (m : Nat) (h : m + 4 ≤ l.length) : (l.take (m + 4)).drop m = [rd l ((m : Nat) : Int), rd l ((m + 1 : Nat) : Int), rd l ((m + 2 : Nat) : Int), rd l ((m + 3 : Nat) : Int)] := by
  rw [rd_nat l m (by omega), rd_nat l (m + 1) (by omega), rd_nat l (m + 2) (by omega), rd_nat l (m + 3) (by omega)]
  refine List.ext_getElem (by simp; omega) (fun j h1 h2 => ?_)
  have hj : j = 0 ∨ j = 1 ∨ j = 2 ∨ j = 3 := by simp at h2; omega
  rcases hj with rfl | rfl | rfl | rfl <;> simp
theorem memT4 (l : List Int) (i : Nat) : memT l (4 * (i + 1)) = memT l (4 * i) ++ (spB [rd l ((4 * i : Nat) : Int), rd l ((4 * i + 1 : Nat) : Int), rd l ((4 * i + 2 : Nat) : Int), rd l ((4 * i + 3 : Nat) : Int)] ++ (⟨#[10]⟩ : ByteArray)) := by
  rw [show 4 * (i + 1) = 4 * i + 1 + 1 + 1 + 1 by omega]
  simp only [memT]
  rw [if_neg (by omega), if_neg (by omega), if_neg (by omega), if_pos (by omega)]
  unfold spB
  simp only [List.map_cons, List.map_nil, joinB_more, joinB_one, ByteArray.append_assoc]
def memText (l : List Int) : ByteArray := if wordsB l 24 = true then memT l 24 else ⟨#[]⟩
theorem wordsB_len {l : List Int} (h : wordsB l 24 = true) : l.length = 24 := by unfold wordsB at h; rw [Bool.and_eq_true] at h; have := of_decide_eq_true h.1; omega
theorem implMemText_eq (l : List Int) (hl : l.length ≤ 1048576) (k : Nat) (hk : 1100000 < k) : impl_MemText.f k l = some (memText l) := by
  unfold impl_MemText.f memText
  rw [memOk_eq l (by omega) _ (by omega), Option.bind_some]
  by_cases w : wordsB l 24 = true
  · rw [if_pos w, if_pos w]
    have ln := wordsB_len w
    have h := for_st 6 (fun k' i (s : ByteArray) => impl_MemText.l0 (k' + 100) l s ((4 * i : Nat) : Int)) (fun i => memT l (4 * i)) (memT l 24) ?_ ?_ (k - 100) 0 (Nat.zero_le _) (by omega)
    · rw [show k - 100 + 100 = k by omega] at h; exact h
    · intro k' i hi
      have hs := memT_size l (4 * i)
      have hz : (spB [rd l ((4 * i : Nat) : Int), rd l ((4 * i + 1 : Nat) : Int), rd l ((4 * i + 2 : Nat) : Int), rd l ((4 * i + 3 : Nat) : Int)]).size ≤ 84 := spB_size _
      have e4 : wrap64 (((4 * i : Nat) : Int) + 4) = ((4 * (i + 1) : Nat) : Int) := by unfold wrap64; omega
      rw [show k' + 1 + 100 = (k' + 100) + 1 by omega, impl_MemText.l0, e4, if_pos (by omega), if_pos (by omega), if_pos (by omega), if_pos (by omega), Int.toNat_natCast, Int.toNat_natCast, show 4 * (i + 1) = 4 * i + 4 by omega, cut4 l (4 * i) (by omega),
        spaced_eq _ (by simp) ?_ _ (show 4 + 60 < _ by omega), Option.bind_some, if_pos (by omega), if_pos ?_, show 4 * i + 4 = 4 * (i + 1) by omega, memT4]
      · rw [ByteArray.size_append]; show _ + (_ + 1) ≤ _; omega
      · intro x hx
        have hm : ∀ j : Nat, j < 24 → 0 ≤ rd l (j : Int) ∧ rd l (j : Int) < 9223372036854775808 := fun j hj => by have := wordsB_mem w _ (rd_mem l j (by omega)); omega
        simp only [List.mem_cons, List.not_mem_nil, or_false] at hx
        rcases hx with rfl | rfl | rfl | rfl <;> exact hm _ (by omega)
    · intro k'
      rw [show k' + 1 + 100 = (k' + 100) + 1 by omega, impl_MemText.l0, if_neg (by omega)]
  · rw [if_neg w, if_neg w]
theorem specMemText_eq (l : List Int) (hl : l.length ≤ 1048576) (k : Nat) (hk : 2000000 < k) : spec_MemText.f k l = some (memText l) := by
  unfold spec_MemText.f memText
  by_cases w : wordsB l 24 = true
  · rw [if_pos w]
    have ln := wordsB_len w
    have h := for_st 24 (fun k' i (s : ByteArray) => spec_MemText.l0 (2 * k' + (k - 60)) l s (i : Int)) (fun i => memT l i) (memT l 24) ?_ ?_ 30 0 (Nat.zero_le _) (by omega)
    · have e : 2 * 30 + (k - 60) = k := by omega
      simp only [e] at h; exact h
    · intro k' i hi
      have hs := memT_size l i; have h1 := dgI_size (rd l (i : Int))
      have hA := wordsB_mem w _ (rd_mem l i (by omega))
      have hm : Int.tmod (i : Int) 4 = ((i % 4 : Nat) : Int) := by rw [Int.tmod_eq_emod_of_nonneg (by omega)]; omega
      rw [show 2 * (k' + 1) + (k - 60) = (2 * k' + (k - 60)) + 1 + 1 by omega, spec_MemText.l0]
      rw [if_pos (by omega), l1Words_eq l 24 (by omega) _ (by omega), Option.bind_some, spec_MemText.j1, if_pos w, if_pos (by omega), if_pos (by omega), l16Digits_eq _ hA.1 (by omega) _ (by omega), Option.bind_some, hm]
      have hd : (dg (rd l (i : Int)).toNat).size ≤ 20 := h1
      rw [if_pos (by omega), wrap_succ (by omega), memT]
      by_cases c : i % 4 = 3
      · rw [if_pos (by omega), if_pos (by rw [ByteArray.size_append]; omega), if_pos c, ByteArray.append_assoc]; rfl
      · rw [if_neg (by omega), if_pos (by rw [ByteArray.size_append]; omega), if_neg c, ByteArray.append_assoc]; rfl
    · intro k'
      rw [show 2 * (k' + 1) + (k - 60) = (2 * k' + (k - 60)) + 1 + 1 by omega, spec_MemText.l0]
      rw [if_neg (by omega), spec_MemText.j1, if_neg (by simp)]
  · rw [if_neg w]
    have w' : wordsB l 24 = false := by rw [Bool.eq_false_iff]; exact w
    obtain ⟨k, rfl⟩ : ∃ m, k = m + 2 := ⟨k - 2, by omega⟩
    rw [spec_MemText.l0]
    by_cases h0 : (0 : Int) < (l.length : Int)
    · rw [if_pos h0, l1Words_eq l 24 (by omega) _ (by omega), Option.bind_some, spec_MemText.j1, w', if_neg (by simp)]
    · rw [if_neg h0, spec_MemText.j1, if_neg (by simp)]
theorem and_range (x : Int) (m : Nat) (hm : m < 2 ^ 62) : 0 ≤ Go.bits .and .i64 x (m : Int) ∧ Go.bits .and .i64 x (m : Int) ≤ (m : Int) := by
  have h : (BitVec.ofInt 64 x &&& BitVec.ofInt 64 (m : Int)).toNat ≤ m := by
    rw [BitVec.toNat_and]
    refine Nat.le_trans Nat.and_le_right ?_
    rw [BitVec.ofInt_natCast, BitVec.toNat_ofNat]
    exact Nat.mod_le _ _
  have e : Go.bits .and .i64 x (m : Int) = (((BitVec.ofInt 64 x &&& BitVec.ofInt 64 (m : Int)).toNat : Nat) : Int) := by
    show IntKind.i64.wrap (((BitVec.ofInt 64 x &&& BitVec.ofInt 64 (m : Int)).toNat : Nat) : Int) = _
    exact wraps_i64 _ (by omega) (by omega)
  rw [e]; omega
/-- Where a cursor may stand. -/
def curOk (c : List Int) (i : Int) : Prop := c.length ≤ 1048576 ∧ 0 ≤ i ∧ i ≤ (c.length : Int)
theorem l1New_ex (c : List Int) (hc : c.length ≤ 1048576) (k : Nat) (hk : 4010 < k) : ∃ i s, spec_l1New.f k c = some (c, i, s) ∧ curOk c i := by
  unfold spec_l1New.f
  have h : ∀ (k j : Nat) (s : Int), j ≤ 4000 → 4000 < j + k → ∃ i s', spec_l1New.l0 k c s (j : Int) = some (c, i, s') ∧ curOk c i := by
    intro k
    induction k with
    | zero => intro j s h1 h2; omega
    | succ k ih =>
      intro j s h1 h2
      rw [spec_l1New.l0]
      by_cases h : (j : Int) < (c.length : Int)
      · rw [if_pos h]
        by_cases h' : (j : Int) < 4000
        · rw [if_pos h', if_pos (by omega), wrap_succ (by omega)]; exact ih _ _ (by omega) (by omega)
        · rw [if_neg h']; exact ⟨_, _, rfl, hc, by omega, by omega⟩
      · rw [if_neg h]; exact ⟨_, _, rfl, hc, by omega, by omega⟩
  exact h k 0 _ (by omega) (by omega)
theorem l1Byte_ex (c : List Int) (i s : Int) (h : curOk c i) : ∃ b i' s', spec_l1Byte.f c i s = some (b, i', s') ∧ 0 ≤ b ∧ b ≤ 255 ∧ curOk c i' := by
  unfold spec_l1Byte.f
  obtain ⟨h1, h2, h3⟩ := h
  by_cases hl : i < (c.length : Int)
  · rw [if_pos hl, if_pos h2]
    have hr := fun x => and_range x 255 (by decide)
    exact ⟨_, _, _, rfl, (hr _).1, (hr _).2, h1, by unfold wrap64; omega, by unfold wrap64; omega⟩
  · rw [if_neg hl]
    have hr := fun x => and_range x 255 (by decide)
    exact ⟨_, _, _, rfl, (hr _).1, (hr _).2, h1, h2, h3⟩
theorem l1Below_ex (c : List Int) (i s : Int) (h : curOk c i) (n : Int) (hn : 0 < n) (hb : n ≤ 4294967296) : ∃ v i' s', spec_l1Below.f c i s n = some (v, i', s') ∧ 0 ≤ v ∧ v < n ∧ curOk c i' := by
  unfold spec_l1Below.f
  rw [if_neg (by omega)]
  by_cases hs : n ≤ 256
  · obtain ⟨b, i1, s1, e, h0, h1, hc⟩ := l1Byte_ex c i s h
    rw [if_pos hs, e, Option.bind_some, if_neg (by omega)]
    exact ⟨_, _, _, rfl, Int.tmod_nonneg _ h0, Int.tmod_lt_of_pos _ hn, hc⟩
  · obtain ⟨b1, i1, s1, e1, p1, q1, c1⟩ := l1Byte_ex c i s h
    obtain ⟨b2, i2, s2, e2, p2, q2, c2⟩ := l1Byte_ex c i1 s1 c1
    obtain ⟨b3, i3, s3, e3, p3, q3, c3⟩ := l1Byte_ex c i2 s2 c2
    obtain ⟨b4, i4, s4, e4, p4, q4, c4⟩ := l1Byte_ex c i3 s3 c3
    rw [if_neg hs]
    simp only [e1, e2, e3, e4, Option.bind_some]
    rw [if_neg (by omega)]
    exact ⟨_, _, _, rfl, Int.tmod_nonneg _ (by unfold wrap64; omega), Int.tmod_lt_of_pos _ hn, c4⟩
theorem l1Once_ex (c : List Int) (i s : Int) (h : curOk c i) (n : Int) (hn : 0 < n) (hb : n ≤ 4294967296) : ∃ v i' s', spec_l1Once.f c i s n = some (v, i', s') ∧ curOk c i' := by
  unfold spec_l1Once.f
  obtain ⟨v, i1, s1, e, _, _, hc⟩ := l1Below_ex c i s h n hn hb
  rw [e, Option.bind_some]
  exact ⟨_, _, _, rfl, hc⟩
theorem l1PickInt_ex (c : List Int) (i s : Int) (h : curOk c i) (l : List Int) (h0 : 0 < l.length) (h1 : l.length ≤ 1000) : ∃ v i' s', spec_l1PickInt.f c i s l = some (v, i', s') ∧ v ∈ l ∧ curOk c i' := by
  unfold spec_l1PickInt.f
  obtain ⟨v, i1, s1, e, p, q, hc⟩ := l1Below_ex c i s h (l.length : Int) (by omega) (by omega)
  rw [e, Option.bind_some, if_pos p, if_pos q]
  refine ⟨_, _, _, rfl, ?_, hc⟩
  obtain ⟨j, rfl⟩ : ∃ j : Nat, v = (j : Int) := ⟨v.toNat, by omega⟩
  exact rd_mem l j (by omega)
theorem l8Has_ex (o : Int) (h0 : 1 ≤ o) (h1 : o ≤ 10) : ∃ v, spec_l8Has.f o = some v := by
  unfold spec_l8Has.f
  rw [l1In_eq, decide_eq_true ⟨h0, h1⟩, Option.bind_some, if_pos rfl, Option.bind_some, if_pos (by omega), if_pos (by simp; omega)]
  exact ⟨_, rfl⟩
theorem drawIns_j1 (x : Int) (c : List Int) (i s : Int) (h : curOk c i) (o r a b n : Int) (k : Nat) : ∃ o' r' a' b' n' i' s', spec_l8DrawIns.j1 (k + 1) x c i s o r a b n = some (o', r', a', b', n', i', s') ∧ curOk c i' := by
  rw [spec_l8DrawIns.j1]
  obtain ⟨v, i1, s1, e1, _, _, c1⟩ := l1Below_ex c i s h 4 (by omega) (by omega)
  obtain ⟨v2, i2, s2, e2, _, c2⟩ := l1PickInt_ex c i s h [0, 1, 2, 4, 8, 9, 12, 20, 23] (by simp) (by simp)
  obtain ⟨v3, i3, s3, e3, _, c3⟩ := l1PickInt_ex c i1 s1 c1 [0, 1, 2, 4, 8, 9, 12, 20, 23] (by simp) (by simp)
  by_cases h1 : Go.bits .and .i64 x 4 = 0
  · rw [if_pos h1]
    by_cases h2 : Go.bits .and .i64 x 8 = 0
    · rw [if_pos h2]; exact ⟨_, _, _, _, _, _, _, rfl, h⟩
    · rw [if_neg h2, e2, Option.bind_some]; exact ⟨_, _, _, _, _, _, _, rfl, c2⟩
  · rw [if_neg h1, e1, Option.bind_some]
    by_cases h2 : Go.bits .and .i64 x 8 = 0
    · rw [if_pos h2]; exact ⟨_, _, _, _, _, _, _, rfl, c1⟩
    · rw [if_neg h2]
      simp only [e3, Option.bind_some]; exact ⟨_, _, _, _, _, _, _, rfl, c3⟩
theorem drawIns_j0 (x : Int) (c : List Int) (i s : Int) (h : curOk c i) (o r a b n : Int) (k : Nat) : ∃ o' r' a' b' n' i' s', spec_l8DrawIns.j0 (k + 2) x c i s o r a b n = some (o', r', a', b', n', i', s') ∧ curOk c i' := by
  rw [spec_l8DrawIns.j0]
  obtain ⟨v, i1, s1, e1, _, _, c1⟩ := l1Below_ex c i s h 4 (by omega) (by omega)
  by_cases h1 : Go.bits .and .i64 x 2 = 0
  · rw [if_pos h1]; exact drawIns_j1 x c i s h o r a b n k
  · rw [if_neg h1, e1, Option.bind_some]; exact drawIns_j1 x c i1 s1 c1 o r v b n k
theorem drawIns_ex (c : List Int) (i s : Int) (h : curOk c i) (k : Nat) (hk : 2 ≤ k) : ∃ o r a b n i' s', spec_l8DrawIns.f k c i s = some (o, r, a, b, n, i', s') ∧ curOk c i' := by
  obtain ⟨k, rfl⟩ : ∃ m, k = m + 2 := ⟨k - 2, by omega⟩
  unfold spec_l8DrawIns.f
  obtain ⟨o, i1, s1, e1, ho, c1⟩ := l1PickInt_ex c i s h [1, 1, 2, 3, 3, 4, 4, 5, 5, 5, 6, 6, 7, 8, 9, 10] (by simp) (by simp)
  have ho' : 1 ≤ o ∧ o ≤ 10 := by simp at ho; omega
  obtain ⟨x, ex⟩ := l8Has_ex o ho'.1 ho'.2
  rw [e1, Option.bind_some]
  simp only [ex, Option.bind_some]
  by_cases h1 : Go.bits .and .i64 x 1 = 0
  · rw [if_pos h1]; exact drawIns_j0 x c i1 s1 c1 o 0 0 0 0 k
  · obtain ⟨v, i2, s2, e2, _, _, c2⟩ := l1Below_ex c i1 s1 c1 4 (by omega) (by omega)
    rw [if_neg h1, e2, Option.bind_some]; exact drawIns_j0 x c i2 s2 c2 o v 0 0 0 k
theorem l8Has_any (o : Int) : ∃ v, spec_l8Has.f o = some v := by
  by_cases h : 1 ≤ o ∧ o ≤ 10
  · exact l8Has_ex o h.1 h.2
  · unfold spec_l8Has.f
    rw [l1In_eq, decide_eq_false h, Option.bind_some, if_neg (by simp)]
    exact ⟨_, rfl⟩
theorem l8Field_any (x m : Int) (h : Bool) : ∃ v, spec_l8Field.f x m h = some v := by
  unfold spec_l8Field.f
  rw [l1In_eq, Option.bind_some]
  repeat' split
  all_goals exact ⟨_, rfl⟩
theorem specInsOk_any (o r a b n : Int) : ∃ v, spec_InsOk.f o r a b n = some v := by
  unfold spec_InsOk.f
  obtain ⟨v, e⟩ := l8Has_any o
  rw [e, Option.bind_some, l1In_eq, Option.bind_some]
  split
  · obtain ⟨v1, e1⟩ := l8Field_any r 3 ((Go.bits .and .i64 v 1) != 0)
    rw [e1, Option.bind_some]
    split
    · obtain ⟨v2, e2⟩ := l8Field_any a 3 ((Go.bits .and .i64 v 2) != 0)
      rw [e2, Option.bind_some]
      split
      · obtain ⟨v3, e3⟩ := l8Field_any b 3 ((Go.bits .and .i64 v 4) != 0)
        rw [e3, Option.bind_some]
        split
        · obtain ⟨v4, e4⟩ := l8Field_any n 63 ((Go.bits .and .i64 v 8) != 0)
          rw [e4, Option.bind_some]; exact ⟨_, rfl⟩
        · exact ⟨_, rfl⟩
      · exact ⟨_, rfl⟩
    · exact ⟨_, rfl⟩
  · exact ⟨_, rfl⟩
theorem specCode_fn : ∃ cf : Int → Int → Int → Int → Int → Int × Bool, ∀ o r a b n, spec_Code.f o r a b n = some (cf o r a b n) := by
  have h : ∀ o r a b n, ∃ v, spec_Code.f o r a b n = some v := fun o r a b n => by
    unfold spec_Code.f
    obtain ⟨v, e⟩ := specInsOk_any o r a b n
    rw [e, Option.bind_some]
    split <;> exact ⟨_, rfl⟩
  exact ⟨fun o r a b n => (h o r a b n).choose, fun o r a b n => (h o r a b n).choose_spec⟩
theorem drawMem_l1 (c : List Int) (i s : Int) (T : List S52) (hT : T.length = 4) : ∀ (k j : Nat) (m : List Int), m.length = 24 → j ≤ 4 → 4 < j + k → ∃ m', spec_l9DrawMem.l1 k m T (j : Int) c i s = some (m', i, s) ∧ m'.length = 24
  | 0, j, m, _, h1, h2 => by omega
  | k + 1, j, m, hm, h1, h2 => by
    obtain ⟨cf, hcf⟩ := specCode_fn
    rw [spec_l9DrawMem.l1]
    by_cases h : j < 4
    · rw [if_pos (by omega), if_pos (by omega), hcf, Option.bind_some, if_pos (by omega), wrap_succ (by omega)]
      exact drawMem_l1 c i s T hT k (j + 1) _ (by simpa using hm) (by omega) (by omega)
    · rw [if_neg (by omega)]; exact ⟨m, rfl, hm⟩
theorem drawMem_l2 (c : List Int) (i s : Int) (T : List S52) (hT : T.length = 4) : ∀ (k j : Nat) (m : List Int), m.length = 24 → j ≤ 4 → 4 < j + k → ∃ m', spec_l9DrawMem.l2 k m T (j : Int) c i s = some (m', i, s) ∧ m'.length = 24
  | 0, j, m, _, h1, h2 => by omega
  | k + 1, j, m, hm, h1, h2 => by
    obtain ⟨cf, hcf⟩ := specCode_fn
    rw [spec_l9DrawMem.l2]
    by_cases h : j < 4
    · rw [if_pos (by omega), if_pos (by omega), hcf, Option.bind_some, if_pos (by omega), wrap_succ (by omega)]
      exact drawMem_l2 c i s T hT k (j + 1) _ (by simpa using hm) (by omega) (by omega)
    · rw [if_neg (by omega)]; exact ⟨m, rfl, hm⟩
theorem drawMem_l0 (c : List Int) : ∀ (k j : Nat) (m : List Int) (i s : Int), curOk c i → m.length = j → j ≤ 24 → 40 < j + k → ∃ m' i' s', spec_l9DrawMem.l0 k m (j : Int) c i s = some (m', i', s') ∧ m'.length = 24 ∧ curOk c i'
  | 0, j, m, i, s, _, _, h1, h2 => by omega
  | k + 1, j, m, i, s, hc, hm, h1, h2 => by
    obtain ⟨cf, hcf⟩ := specCode_fn
    rw [spec_l9DrawMem.l0]
    by_cases h : j < 24
    · obtain ⟨o, r, a, b, n, i1, s1, e1, c1⟩ := drawIns_ex c i s hc k (by omega)
      rw [if_pos (by omega), e1, Option.bind_some, hcf, Option.bind_some]
      obtain ⟨v2, i2, s2, e2, _, c2⟩ := l1PickInt_ex c i1 s1 c1 [0, 1, 5, 65535] (by simp) (by simp)
      obtain ⟨v3, i3, s3, e3, c3⟩ := l1Once_ex c i1 s1 c1 9 (by omega) (by omega)
      obtain ⟨v4, i4, s4, e4, _, c4⟩ := l1PickInt_ex c i3 s3 c3 [0, 1, 5, 65535] (by simp) (by simp)
      have next : ∀ (x : Int) i s, curOk c i → ∃ m' i' s', (if m.length < 17592186044416 then (spec_l9DrawMem.l0 k (m ++ [x]) (wrap64 ((j : Int) + 1)) c i s) else none) = some (m', i', s') ∧ m'.length = 24 ∧ curOk c i' := by
        intro x i s hc
        rw [if_pos (by omega), wrap_succ (by omega)]
        exact drawMem_l0 c k (j + 1) _ i s hc (by simp; omega) (by omega) (by omega)
      by_cases h15 : (j : Int) > 15
      · rw [if_pos h15]
        simp only [e2, Option.bind_some]; exact next _ _ _ c2
      · rw [if_neg h15]
        simp only [e3, Option.bind_some]
        by_cases hv : v3 = true
        · rw [if_pos hv]
          simp only [e4, Option.bind_some]; exact next _ _ _ c4
        · rw [if_neg hv]; exact next _ _ _ c3
    · obtain ⟨v, i1, s1, e1, _, _, c1⟩ := l1Below_ex c i s hc 4 (by omega) (by omega)
      rw [if_neg (by omega), e1, Option.bind_some]
      by_cases h0 : v = 0
      · obtain ⟨m', e, hl⟩ := drawMem_l1 c i1 s1 [⟨1, 1, 0, 0, 1⟩, ⟨6, 2, 0, 1, 20⟩, ⟨10, 3, 2, 1, 0⟩, ⟨8, 0, 0, 0, 1⟩] rfl k 0 m (by omega) (by omega) (by omega)
        rw [if_pos h0]; exact ⟨_, _, _, e, hl, c1⟩
      · rw [if_neg h0]
        by_cases h1 : v = 1
        · obtain ⟨m', e, hl⟩ := drawMem_l2 c i1 s1 [⟨4, 1, 0, 0, 8⟩, ⟨3, 1, 1, 0, 1⟩, ⟨5, 0, 0, 1, 8⟩, ⟨8, 0, 0, 0, 8⟩] rfl k 0 m (by omega) (by omega) (by omega)
          rw [if_pos h1]; exact ⟨_, _, _, e, hl, c1⟩
        · rw [if_neg h1]; exact ⟨_, _, _, rfl, by omega, c1⟩
theorem drawMem_ex (c : List Int) (i s : Int) (h : curOk c i) (k : Nat) (hk : 40 < k) : ∃ m i' s', spec_l9DrawMem.f k c i s = some (m, i', s') ∧ m.length = 24 ∧ curOk c i' :=
  drawMem_l0 c k 0 [] i s h rfl (by omega) (by omega)
theorem sameInts_same (l : List Int) (hl : l.length ≤ 1048576) (k : Nat) (hk : 1048580 < k) : laws_sameInts.f k l l = some true := by
  unfold laws_sameInts.f
  rw [if_pos rfl]
  refine same_loop (C := 0) (n := l.length) (fun k i => laws_sameInts.l0 k l l (i : Int)) ?_ ?_ k (by omega)
  · intro k i hi _
    simp only [laws_sameInts.l0]
    rw [if_pos (by omega), if_pos (by omega), if_pos (by omega), if_pos trivial, wrap_succ (by omega)]
  · intro k
    simp only [laws_sameInts.l0]
    rw [if_neg (by omega)]
theorem bl_loop (b : ByteArray) : ∀ (d i : Nat) (r : List UInt8), i + d = b.size → (ByteArray.toList.loop b i r).length = r.length + d
  | 0, i, r, h => by rw [ByteArray.toList.loop, if_neg (by omega), List.length_reverse]; rfl
  | d + 1, i, r, h => by rw [ByteArray.toList.loop, if_pos (by omega), bl_loop b d (i + 1) _ (by omega), List.length_cons]; omega
theorem bl_size (b : ByteArray) : b.toList.length = b.size := by
  rw [ByteArray.toList, bl_loop b b.size 0 [] (by omega)]; simp
theorem bl_nil (b : ByteArray) : (b.toList == ([] : List UInt8)) = decide (b.size = 0) := by
  have h := bl_size b
  by_cases c : b.size = 0
  · rw [decide_eq_true c, List.eq_nil_of_length_eq_zero (h.trans c)]; rfl
  · rw [decide_eq_false c]
    cases e : b.toList with
    | nil => rw [e] at h; exact absurd h.symm c
    | cons x l => rfl
theorem chText_zero (a b : List Int) : ∀ n, (chText a b n).size = 0 ↔ ∀ i, i < n → rd a (i : Int) = rd b (i : Int)
  | 0 => ⟨fun _ i hi => by omega, fun _ => rfl⟩
  | n + 1 => by
    have ih := chText_zero a b n
    unfold chText
    by_cases c : rd a (n : Int) = rd b (n : Int)
    · rw [if_pos c, ih]
      refine ⟨fun h i hi => ?_, fun h i hi => h i (by omega)⟩
      by_cases e : i = n
      · subst e; exact c
      · exact h i (by omega)
    · rw [if_neg c]
      refine ⟨fun h => ?_, fun h => absurd (h n (by omega)) c⟩
      rw [ByteArray.size_append] at h
      unfold chOne at h
      simp only [ByteArray.size_append, sz1] at h
      omega
theorem laws_words_eq (l : List Int) (hl : l.length ≤ 1048576) (k : Nat) (hk : l.length < k) : laws_words.f k l = some (l.all fun x => decide (0 ≤ x ∧ x ≤ 65535)) := by
  unfold laws_words.f
  refine for_all (n := l.length) (L := fun k i => laws_words.l0 k l (i : Int)) (fun i => 0 ≤ rd l (i : Int) ∧ rd l (i : Int) ≤ 65535) (fun k i hi hp => ?_) (fun k i hi hp => ?_) true (fun k => ?_) ?_ k hk
  · simp only [laws_words.l0]
    rw [if_pos (by omega), if_pos (by omega), if_neg (by omega), if_neg (by omega), wrap_succ (by omega)]
  · simp only [laws_words.l0]
    rw [if_pos (by omega), if_pos (by omega)]
    by_cases c : rd l (i : Int) < 0
    · rw [if_pos c]
    · rw [if_neg c, if_pos (by omega)]
  · simp only [laws_words.l0]
    rw [if_neg (by omega)]
  · rw [List.all_eq_true]
    refine ⟨fun h => ⟨fun j hj => of_decide_eq_true (h _ (rd_mem l j hj)), rfl⟩, fun h x hx => ?_⟩
    obtain ⟨j, hj, rfl⟩ := List.mem_iff_getElem.1 hx
    have := h.1 j hj
    rw [rd_nat l j hj] at this
    exact decide_eq_true this
theorem sameInts_eq (a b : List Int) (hl : a.length = b.length) (h1 : a.length ≤ 1048576) (k : Nat) (hk : a.length < k) : laws_sameInts.f k a b = some (decide (a = b)) := by
  unfold laws_sameInts.f
  rw [if_pos (by omega)]
  refine for_all (n := a.length) (L := fun k i => laws_sameInts.l0 k a b (i : Int)) (fun i => rd a (i : Int) = rd b (i : Int)) (fun k i hi hp => ?_) (fun k i hi hp => ?_) true (fun k => ?_) ?_ k hk
  · simp only [laws_sameInts.l0]
    rw [if_pos (by omega), if_pos (by omega), if_pos (by omega), if_pos hp, wrap_succ (by omega)]
  · simp only [laws_sameInts.l0]
    rw [if_pos (by omega), if_pos (by omega), if_pos (by omega), if_neg hp]
  · simp only [laws_sameInts.l0]
    rw [if_neg (by omega)]
  · rw [decide_eq_true_iff, eq_iff_all a b hl]
    exact ⟨fun h => ⟨h, rfl⟩, fun h => h.1⟩
theorem drawMemText_ex (c : List Int) (hc : c.length ≤ 1048576) (k : Nat) (hk : 10000 < k) : ∃ m, spec_DrawMemText.f k c = some m ∧ m.length ≤ 24 := by
  unfold spec_DrawMemText.f spec_DrawMemBytes.f
  obtain ⟨i0, s0, e0, c0⟩ := l1New_ex c hc k (by omega)
  obtain ⟨m, i1, s1, e1, hm, c1⟩ := drawMem_ex c i0 s0 c0 k (by omega)
  obtain ⟨v, i2, s2, e2, _, _, c2⟩ := l1Below_ex c i1 s1 c1 8 (by omega) (by omega)
  obtain ⟨v3, i3, s3, e3, _, c3⟩ := l1PickInt_ex c i2 s2 c2 [(-1), 65536] (by simp) (by simp)
  simp only [e0, e1, e2, e3, Option.bind_some]
  by_cases h0 : v = 0
  · rw [if_pos h0, if_pos (by omega)]
    exact ⟨_, rfl, by rw [List.length_drop]; omega⟩
  · rw [if_neg h0]
    by_cases h1 : v = 1
    · rw [if_pos h1, if_pos (by omega)]
      exact ⟨_, rfl, by rw [List.length_set]; omega⟩
    · rw [if_neg h1]; exact ⟨_, rfl, by omega⟩
theorem drawChanged_ex (c : List Int) (hc : c.length ≤ 1048576) (k : Nat) (hk : 10000 < k) : ∃ a b, spec_DrawChangedText.f k c = some (a, b) ∧ a.length = 24 ∧ b.length ≤ 24 := by
  unfold spec_DrawChangedText.f
  obtain ⟨i0, s0, e0, c0⟩ := l1New_ex c hc k (by omega)
  obtain ⟨m, i1, s1, e1, hm, c1⟩ := drawMem_ex c i0 s0 c0 k (by omega)
  obtain ⟨on, i2, s2, e2, c2⟩ := l1Once_ex c i1 s1 c1 8 (by omega) (by omega)
  obtain ⟨v3, i3, s3, e3, p3, q3, c3⟩ := l1Below_ex c i2 s2 c2 24 (by omega) (by omega)
  obtain ⟨v4, i4, s4, e4, _, _, c4⟩ := l1Below_ex c i3 s3 c3 9 (by omega) (by omega)
  simp only [e0, e1, e2, e3, e4, Option.bind_some, List.nil_append]
  by_cases h0 : on = true
  · rw [if_pos h0, if_pos (by omega)]
    exact ⟨_, _, rfl, hm, by rw [List.length_drop]; omega⟩
  · rw [if_neg h0, if_pos (by simp; omega), if_pos p3, if_pos (by omega)]
    exact ⟨_, _, rfl, hm, by rw [List.length_set]; omega⟩
theorem FnMemTexts : laws_FnMemTexts.Pure := by
  intro c _ _ _
  obtain ⟨K, hK⟩ : ∃ K : Nat, 5000000 ≤ K := ⟨_, Nat.le_refl _⟩
  refine ⟨K + 1, ?_⟩
  unfold laws_FnMemTexts.f laws_big.f
  rw [Option.bind_some]
  by_cases hb : (c.length : Int) > 1048576
  · rw [if_pos (decide_eq_true hb)]
  rw [if_neg (by simpa using hb)]
  obtain ⟨m, em, hm⟩ := drawMemText_ex c (by omega) (K + 1) (by omega)
  obtain ⟨a, b, eb, ha, hbl⟩ := drawChanged_ex c (by omega) (K + 1) (by omega)
  have hs : (if wordsB a 24 = true ∧ wordsB a 24 = true then chText a a 24 else (⟨#[]⟩ : ByteArray)).size = 0 := by
    split
    · exact (chText_zero a a 24).2 fun i _ => rfl
    · rfl
  rw [em, Option.bind_some, eb, Option.bind_some]
  dsimp only
  rw [implChangedText_eq a b (by omega) (by omega) (K + 1) (by omega), Option.bind_some, implMemText_eq m (by omega) (K + 1) (by omega), Option.bind_some, specMemText_eq m (by omega) (K + 1) (by omega), Option.bind_some, if_pos rfl, specChangedText_eq a b (by omega) (by omega) (K + 1) (by omega), Option.bind_some, if_pos rfl, implChangedText_eq a a (by omega) (by omega) (K + 1) (by omega), Option.bind_some]
  have hne : ((if wordsB a 24 = true ∧ wordsB a 24 = true then chText a a 24 else (⟨#[]⟩ : ByteArray)).toList != ([] : List UInt8)) = false := by
    rw [bne, bl_nil, decide_eq_true hs]; rfl
  rw [hne, laws_FnMemTexts.j0, if_neg (by simp), bl_nil, laws_words_eq a (by omega) K (by omega), laws_words_eq b (by omega) K (by omega)]
  have wa : wordsB a 24 = a.all fun x => decide (0 ≤ x ∧ x ≤ 65535) := by unfold wordsB; rw [decide_eq_true (by omega), Bool.true_and]
  have empty : ¬ (wordsB a 24 = true ∧ wordsB b 24 = true) → some (decide ((if wordsB a 24 = true ∧ wordsB b 24 = true then chText a b 24 else (⟨#[]⟩ : ByteArray)).size = 0)) = some true := fun h => by rw [if_neg h]; rfl
  by_cases hl : (a.length : Int) = (b.length : Int)
  · rw [if_pos hl, Option.bind_some]
    have wb : wordsB b 24 = b.all fun x => decide (0 ≤ x ∧ x ≤ 65535) := by unfold wordsB; rw [decide_eq_true (by omega), Bool.true_and]
    rw [← wa, ← wb]
    by_cases ha' : wordsB a 24 = true
    · rw [if_pos ha', Option.bind_some]
      by_cases hb' : wordsB b 24 = true
      · rw [if_pos hb', if_pos (by omega), sameInts_eq a b (by omega) (by omega) K (by omega), Option.bind_some, if_pos ⟨ha', hb'⟩]
        congr 1
        rw [beq_iff_eq, Bool.eq_iff_iff, decide_eq_true_iff, decide_eq_true_iff, chText_zero, eq_iff_all a b (by omega), ha]
      · rw [if_neg hb']; exact empty (fun q => hb' q.2)
    · rw [if_neg ha']; exact empty (fun q => ha' q.1)
  · rw [if_neg hl]
    exact empty (fun q => by have := wordsB_24 q.2; omega)
end Go.Proofs.Ytnekcbajadnldaa.Pure
