/- For all bytes: what is drawn from them is told by the program as by the reference; what is placed stands there, and all else is as it was: no conditions. -/
import Derived.Test.YtddncenhddiemaaPFnPlacedx8
namespace Go.Proofs.Ytddncenhddiemaa.Pure
open Go.RowKit Go.Proofs.Ytddncenhddiemaa.PFnPlaced Go.Proofs.YtddncenhddiemaaW.PrintWords Go.Proofs.YtddncenhddiemaaW.PrintLast
set_option linter.unusedVariables false
set_option linter.unusedSimpArgs false

theorem wrap_small {x : Int} (h0 : -9223372036854775808 ≤ x) (h : x ≤ 9223372036854775807) : wrap64 x = x := by
  unfold wrap64; omega
theorem wrap_succ {i : Nat} (h : i < 4611686018427387904) : wrap64 ((i : Int) + 1) = ((i + 1 : Nat) : Int) := by
  unfold wrap64; omega
theorem rd_nat (l : List Int) (i : Nat) (h : i < l.length) : rd l (i : Int) = l[i] := by
  unfold rd; simp [List.getD, h]
theorem rd_mem (l : List Int) (i : Nat) (h : i < l.length) : rd l (i : Int) ∈ l := by
  rw [rd_nat l i h]; exact List.getElem_mem h
/-- A loop whose state is known ahead of each round. -/
theorem for_st {σ ρ : Type} (n : Nat) (L : Nat → Nat → σ → Option ρ) (st : Nat → σ) (r : ρ) (hs : ∀ k i, i < n → L (k + 1) i (st i) = L k (i + 1) (st (i + 1))) (he : ∀ k, L (k + 1) n (st n) = some r) :
    ∀ (k i : Nat), i ≤ n → n < i + k → L k i (st i) = some r
  | 0, i, hi, hk => by omega
  | k + 1, i, hi, hk => by
    by_cases h : i < n
    · rw [hs k i h]; exact for_st n L st r hs he k (i + 1) (by omega) (by omega)
    · have : i = n := by omega
      subst this; exact he k
/-- A loop that ends at the first place where p holds. -/
theorem for_find {ρ : Type} (n : Nat) (L : Nat → Nat → Option ρ) (p : Nat → Prop) (b : Nat → ρ) (r : ρ) (hs : ∀ k i, i < n → ¬ p i → L (k + 1) i = L k (i + 1)) (hb : ∀ k i, i < n → p i → L (k + 1) i = some (b i)) (he : ∀ k, L (k + 1) n = some r) :
    ∀ (k i : Nat), i ≤ n → n < i + k → (∃ j, i ≤ j ∧ j < n ∧ p j ∧ (∀ m, i ≤ m → m < j → ¬ p m) ∧ L k i = some (b j)) ∨ (∀ j, i ≤ j → j < n → ¬ p j) ∧ L k i = some r
  | 0, i, hi, hk => by omega
  | k + 1, i, hi, hk => by
    by_cases h : i < n
    · by_cases hp : p i
      · exact .inl ⟨i, Nat.le_refl _, h, hp, fun m h1 h2 => by omega, hb k i h hp⟩
      · rw [hs k i h hp]
        rcases for_find n L p b r hs hb he k (i + 1) (by omega) (by omega) with ⟨j, h1, h2, h3, h4, h5⟩ | ⟨h1, h2⟩
        · refine .inl ⟨j, by omega, h2, h3, fun m hm1 hm2 => ?_, h5⟩
          by_cases e : m = i
          · subst e; exact hp
          · exact h4 m (by omega) hm2
        · refine .inr ⟨fun j hj1 hj2 => ?_, h2⟩
          by_cases e : j = i
          · subst e; exact hp
          · exact h1 j (by omega) hj2
    · have : i = n := by omega
      subst this; exact .inr ⟨fun j h1 h2 => by omega, he k⟩
/-- The same for a Bool: do all places pass? -/
theorem for_all {n : Nat} {L : Nat → Nat → Option Bool} (p : Nat → Prop) (hs : ∀ k i, i < n → p i → L (k + 1) i = L k (i + 1)) (hb : ∀ k i, i < n → ¬ p i → L (k + 1) i = some false) (c : Bool) (he : ∀ k, L (k + 1) n = some c) {q : Bool}
    (hq : q = true ↔ (∀ j, j < n → p j) ∧ c = true) (k : Nat) (hk : n < k) : L k 0 = some q := by
  rcases for_find n L (fun i => ¬ p i) (fun _ => false) c (fun k i h hp => hs k i h (Classical.not_not.1 hp)) (fun k i h hp => hb k i h hp) he k 0 (Nat.zero_le _) (by omega) with ⟨j, _, h2, h3, _, h5⟩ | ⟨h1, h2⟩
  · rw [h5]; congr 1; symm
    rw [Bool.eq_false_iff]; intro hh; exact h3 ((hq.1 hh).1 j h2)
  · rw [h2]; congr 1
    have : ∀ j, j < n → p j := fun j hj => Classical.not_not.1 (h1 j (Nat.zero_le _) hj)
    rw [Bool.eq_iff_iff, hq]; exact ⟨fun h => ⟨this, h⟩, fun h => h.2⟩
/-- What is written, place by place. -/
theorem set_step {α : Type} (a b : List α) (i : Nat) (hi : i < a.length) (hb : b.length = a.length) : (a.take i ++ b.drop i).set i (a[i]'hi) = a.take (i + 1) ++ b.drop (i + 1) := by
  rw [List.set_append_right _ _ (by simp; omega), List.length_take, Nat.min_eq_left (by omega), Nat.sub_self, List.take_succ_eq_append_getElem hi, List.append_assoc]
  congr 1
  rw [List.drop_eq_getElem_cons (by omega)]
  rfl
theorem snoc_step {α : Type} (a : List α) (i : Nat) (hi : i < a.length) : a.take i ++ [a[i]'hi] = a.take (i + 1) := by
  rw [List.take_succ_eq_append_getElem hi]
theorem eq_iff_all (a b : List Int) (h : a.length = b.length) : a = b ↔ ∀ j, j < a.length → rd a (j : Int) = rd b (j : Int) := by
  constructor
  · rintro rfl j _; rfl
  · intro hh; refine List.ext_getElem h (fun j h1 h2 => ?_)
    have := hh j h1
    rwa [rd_nat a j h1, rd_nat b j h2] at this
/-- What marks hold: s, s + 1, .. -/
def iota (s : Int) (n : Nat) : List Int := (List.range n).map fun (i : Nat) => s + (i : Int)
theorem iota_length (s : Int) (n : Nat) : (iota s n).length = n := by simp [iota]
theorem iota_get (s : Int) (n i : Nat) (h : i < n) : (iota s n)[i]'(by rw [iota_length]; exact h) = s + i := by simp [iota]
/-- The same as bytes. -/
def iota8 (s : Int) (n : Nat) : List Int := (List.range n).map fun (i : Nat) => (s + (i : Int)) % 256
theorem iota8_length (s : Int) (n : Nat) : (iota8 s n).length = n := by simp [iota8]
theorem iota8_get (s : Int) (n i : Nat) (h : i < n) : (iota8 s n)[i]'(by rw [iota8_length]; exact h) = (s + i) % 256 := by simp [iota8]
theorem wraps_i64 (n : Int) (h0 : 0 ≤ n) (h1 : n < 2 ^ 62) : IntKind.i64.wrap n = n := by rw [IntKind.wrap_i64]; omega
theorem and255 (x : Int) (h0 : 0 ≤ x) (h : x ≤ 65535) : Go.bits .and .i64 x 255 = x % 256 := bits_mask .i64 62 (by decide) wraps_i64 8 (by decide) x h0 (by omega)
/-- Does a search find something. -/
theorem idx_any {n : Nat} (L : Nat → Nat → Option Int) (q : Nat → Bool) (hs : ∀ k i, i < n → q i = false → L (k + 1) i = L k (i + 1)) (hb : ∀ k i, i < n → q i = true → L (k + 1) i = some (i : Int)) (he : ∀ k, L (k + 1) n = some (-1)) (r : Bool)
    (hr : r = true ↔ ∃ j, j < n ∧ q j = true) (k : Nat) (hk : n < k) : ∃ v, L k 0 = some v ∧ decide (v ≥ 0) = r := by
  rcases for_find n L (fun i => q i = true) (fun i => (i : Int)) (-1) (fun k i h hp => hs k i h (by simpa using hp)) hb he k 0 (Nat.zero_le _) (by omega) with ⟨j, _, h2, h3, _, h5⟩ | ⟨h1, h2⟩
  · refine ⟨_, h5, ?_⟩
    rw [decide_eq_true (by omega : (j : Int) ≥ 0)]; exact (hr.2 ⟨j, h2, h3⟩).symm
  · refine ⟨_, h2, ?_⟩
    rw [decide_eq_false (by omega : ¬ (-1 : Int) ≥ 0)]; symm; rw [Bool.eq_false_iff]; intro hh
    obtain ⟨j, hj, hq⟩ := hr.1 hh
    exact h1 j (Nat.zero_le _) hj hq
/-- A count that goes down, item by item, and stops below nothing. -/
theorem sz_loop {n C : Nat} {M : Int} (L : Nat → Nat → Int → Option Int) (P : Nat → Prop) (hs : ∀ k i a, i < n → C ≤ k → 0 ≤ a → a ≤ M → (∃ r, r < 0 ∧ L (k + 1) i a = some r) ∨ ∃ t, 0 ≤ t ∧ t ≤ a ∧ P i ∧ L (k + 1) i a = L k (i + 1) t)
    (he : ∀ k a, L (k + 1) n a = some a) : ∀ (m i : Nat) (a : Int), i ≤ n → n < i + m → 0 ≤ a → a ≤ M → ∃ r, L (m + C) i a = some r ∧ r ≤ a ∧ (0 ≤ r → ∀ j, i ≤ j → j < n → P j)
  | 0, i, a, hi, hm, _, _ => by omega
  | m + 1, i, a, hi, hm, h0, h1 => by
    rw [show m + 1 + C = (m + C) + 1 by omega]
    by_cases h : i < n
    · rcases hs (m + C) i a h (by omega) h0 h1 with ⟨r, hr, e⟩ | ⟨t, ht0, ht, hp, e⟩
      · exact ⟨r, e, by omega, fun h => by omega⟩
      · obtain ⟨r, e2, hr, hq⟩ := sz_loop L P hs he m (i + 1) t (by omega) (by omega) ht0 (by omega)
        refine ⟨r, by rw [e, e2], by omega, fun h0 j hj1 hj2 => ?_⟩
        by_cases c : j = i
        · subst c; exact hp
        · exact hq h0 j (by omega) hj2
    · have : i = n := by omega
      subst this
      exact ⟨a, he _ _, Int.le_refl _, fun _ j h1 h2 => by omega⟩
/-- A list made place by place. -/
theorem to_loop {α : Type} {C : Nat} (v z : List α) (hz : z.length = v.length) (L : Nat → Nat → List α → Option (List α)) (hs : ∀ k i s (hi : i < v.length), C ≤ k → s.length = v.length → L (k + 1) i s = L k (i + 1) (s.set i (v[i]'hi)))
    (he : ∀ k s, L (k + 1) v.length s = some s) (k : Nat) (hk : v.length + C < k) : L k 0 z = some v := by
  have h := for_st v.length (fun k' i (s : List α) => L (k' + C) i s) (fun i => v.take i ++ z.drop i) v ?_ ?_ (k - C) 0 (Nat.zero_le _) (by omega)
  · rw [show k - C + C = k by omega] at h; simpa using h
  · intro k' i hi
    rw [show k' + 1 + C = (k' + C) + 1 by omega, hs _ _ _ hi (by omega) (by simp; omega), set_step _ _ _ hi hz]
  · intro k'
    rw [show k' + 1 + C = (k' + C) + 1 by omega, he, List.take_of_length_le (Nat.le_refl _), List.drop_of_length_le (by omega), List.append_nil]
/-- Equal, place by place. -/
theorem same_loop {n C : Nat} (L : Nat → Nat → Option Bool) (hs : ∀ k i, i < n → C ≤ k → L (k + 1) i = L k (i + 1)) (he : ∀ k, L (k + 1) n = some true) (k : Nat) (hk : n + C < k) : L k 0 = some true := by
  have h := for_st n (fun k' i (_ : Unit) => L (k' + C) i) (fun _ => ()) true ?_ ?_ (k - C) 0 (Nat.zero_le _) (by omega)
  · rw [show k - C + C = k by omega] at h; exact h
  · intro k' i hi; rw [show k' + 1 + C = (k' + C) + 1 by omega, hs _ _ hi (by omega)]
  · intro k'; rw [show k' + 1 + C = (k' + C) + 1 by omega, he]
theorem l1In_eq (x lo hi : Int) : spec_l1In.f x lo hi = some (decide (lo ≤ x ∧ x ≤ hi)) := by
  unfold spec_l1In.f
  by_cases h : x ≥ lo
  · rw [if_pos h]; have h' : lo ≤ x := h; simp [h']
  · rw [if_neg h]; have h' : ¬ lo ≤ x := h; simp [h']
theorem from_eq (x lo hi : Int) : impl_from.f x lo hi = some (decide (lo ≤ x ∧ x ≤ hi)) := by
  unfold impl_from.f
  by_cases h : x ≥ lo
  · rw [if_pos h]; have h' : lo ≤ x := h; simp [h']
  · rw [if_neg h]; have h' : ¬ lo ≤ x := h; simp [h']
theorem isWord_eq (x : Int) : impl_isWord.f x = some (decide (0 ≤ x ∧ x ≤ 65535)) := by
  unfold impl_isWord.f; rw [from_eq]; rfl
theorem isCell_eq (x : Int) : impl_isCell.f x = some (decide (0 ≤ x ∧ x ≤ 23)) := by
  unfold impl_isCell.f; rw [from_eq]; rfl
def wordsB (l : List Int) (n : Int) : Bool := decide ((l.length : Int) = n) && l.all (fun x => decide (0 ≤ x ∧ x ≤ 65535))
theorem wordsB_mem {l : List Int} {n : Int} (h : wordsB l n = true) (x : Int) (hx : x ∈ l) : 0 ≤ x ∧ x ≤ 65535 := by
  unfold wordsB at h; rw [Bool.and_eq_true, List.all_eq_true] at h; exact of_decide_eq_true (h.2 x hx)
theorem l1Words_eq (l : List Int) (n : Int) (hl : l.length ≤ 2097152) (k : Nat) (hk : l.length < k) : spec_l1Words.f k l n = some (wordsB l n) := by
  unfold spec_l1Words.f
  refine for_all (L := fun k i => spec_l1Words.l0 k l n (i : Int)) (n := l.length) (fun j => 0 ≤ rd l (j : Int) ∧ rd l (j : Int) ≤ 65535) ?_ ?_ (decide ((l.length : Int) = n)) ?_ ?_ k hk
  · intro k i hi hp
    simp only [spec_l1Words.l0]
    rw [if_pos (by omega), if_pos (by omega), l1In_eq, decide_eq_true hp, Option.bind_some, if_pos rfl, wrap_succ (by omega)]
  · intro k i hi hp
    simp only [spec_l1Words.l0]
    rw [if_pos (by omega), if_pos (by omega), l1In_eq, decide_eq_false hp, Option.bind_some, if_neg (by simp)]
  · intro k
    simp only [spec_l1Words.l0]
    rw [if_neg (by omega)]; rfl
  · unfold wordsB
    rw [Bool.and_eq_true, List.all_eq_true]
    constructor
    · rintro ⟨h1, h2⟩; exact ⟨fun j hj => of_decide_eq_true (h2 _ (rd_mem l j hj)), h1⟩
    · rintro ⟨h1, h2⟩; refine ⟨h2, fun x hx => ?_⟩
      obtain ⟨j, hj, rfl⟩ := List.getElem_of_mem hx
      have := h1 j hj; rw [rd_nat l j hj] at this; exact decide_eq_true this
theorem wordsOk_eq (l : List Int) (n : Int) (hl : l.length ≤ 2097152) (k : Nat) (hk : l.length < k) : impl_wordsOk.f k l n = some (wordsB l n) := by
  unfold impl_wordsOk.f
  by_cases h : (l.length : Int) = n
  · rw [if_pos h]
    unfold slices_ContainsFunc_at_impl_wordsOk_1.f slices_IndexFunc_at_impl_wordsOk_1.f
    have hf : ∀ x, impl_wordsOk_1.f x = some (!decide (0 ≤ x ∧ x ≤ 65535)) := fun x => by unfold impl_wordsOk_1.f; rw [isWord_eq]; rfl
    have hs : ∀ k i, i < l.length → ¬ ¬ (0 ≤ rd l (i : Int) ∧ rd l (i : Int) ≤ 65535) → slices_IndexFunc_at_impl_wordsOk_1.l0 (k + 1) l (l.length : Int) (i : Int) = slices_IndexFunc_at_impl_wordsOk_1.l0 k l (l.length : Int) ((i + 1 : Nat) : Int) := by
      intro k i hi hp
      simp only [slices_IndexFunc_at_impl_wordsOk_1.l0]
      rw [if_pos (by omega), if_pos (by omega), if_pos (by omega), hf, decide_eq_true (Classical.not_not.1 hp), Option.bind_some, if_neg (by simp), wrap_succ (by omega)]
    have hb : ∀ k i, i < l.length → ¬ (0 ≤ rd l (i : Int) ∧ rd l (i : Int) ≤ 65535) → slices_IndexFunc_at_impl_wordsOk_1.l0 (k + 1) l (l.length : Int) (i : Int) = some (i : Int) := by
      intro k i hi hp
      simp only [slices_IndexFunc_at_impl_wordsOk_1.l0]
      rw [if_pos (by omega), if_pos (by omega), if_pos (by omega), hf, decide_eq_false hp, Option.bind_some, if_pos (by simp)]
    have he : ∀ k, slices_IndexFunc_at_impl_wordsOk_1.l0 (k + 1) l (l.length : Int) (l.length : Int) = some (-1) := by
      intro k
      simp only [slices_IndexFunc_at_impl_wordsOk_1.l0]
      rw [if_neg (by omega)]
    rcases for_find l.length (fun k i => slices_IndexFunc_at_impl_wordsOk_1.l0 k l (l.length : Int) (i : Int)) (fun j => ¬ (0 ≤ rd l (j : Int) ∧ rd l (j : Int) ≤ 65535)) (fun j => (j : Int)) (-1) hs hb he k 0 (Nat.zero_le _) (by omega) with ⟨j, _, h2, h3, _, h5⟩ | ⟨h1, h2⟩
    · have h5' : slices_IndexFunc_at_impl_wordsOk_1.l0 k l (l.length : Int) 0 = some (j : Int) := h5
      rw [h5']
      simp only [Option.bind_some]; congr 1; symm
      rw [decide_eq_true (by omega : (j : Int) ≥ 0), Bool.not_true, wordsB, Bool.and_eq_false_iff]; right
      rw [Bool.eq_false_iff]; intro hh
      exact h3 (of_decide_eq_true (List.all_eq_true.1 hh _ (rd_mem l j h2)))
    · have h2' : slices_IndexFunc_at_impl_wordsOk_1.l0 k l (l.length : Int) 0 = some (-1) := h2
      rw [h2']
      simp only [Option.bind_some]; congr 1; symm
      rw [decide_eq_false (by omega : ¬ (-1 : Int) ≥ 0), Bool.not_false, wordsB, decide_eq_true h, Bool.true_and, List.all_eq_true]
      intro x hx
      obtain ⟨j, hj, rfl⟩ := List.getElem_of_mem hx
      have := Classical.not_not.1 (h1 j (Nat.zero_le _) hj); rw [rd_nat l j hj] at this; exact decide_eq_true this
  · rw [if_neg h, wordsB, decide_eq_false h, Bool.false_and]
theorem memOk_eq (l : List Int) (hl : l.length ≤ 2097152) (k : Nat) (hk : l.length < k) : impl_memOk.f k l = some (wordsB l 24) := by
  unfold impl_memOk.f; rw [wordsOk_eq l 24 hl k hk]; rfl
theorem ite_some (b c : Bool) : (if b = true then some c else some false) = some (b && c) := by cases b <;> rfl
theorem l8Field_eq (x m : Int) (h : Bool) : spec_l8Field.f x m h = some (decide (0 ≤ x ∧ x ≤ m) && (h || decide (x = 0))) := by
  unfold spec_l8Field.f
  rw [l1In_eq, Option.bind_some]
  have e : (x == 0) = decide (x = 0) := rfl
  rw [e]
  cases h <;> simp only [if_true, Bool.false_eq_true, if_false, Bool.true_or, Bool.false_or, ite_some]
theorem specInsOk_eq (o r a b n : Int) : spec_InsOk.f o r a b n = some (insOkB o r a b n) := by
  unfold spec_InsOk.f spec_l8Has.f
  simp only [l1In_eq, l8Field_eq, Option.bind_some, ite_some]
  by_cases ho : 1 ≤ o ∧ o ≤ 10
  · have hc : o = 1 ∨ o = 2 ∨ o = 3 ∨ o = 4 ∨ o = 5 ∨ o = 6 ∨ o = 7 ∨ o = 8 ∨ o = 9 ∨ o = 10 := by omega
    rw [decide_eq_true ho]
    rcases hc with rfl | rfl | rfl | rfl | rfl | rfl | rfl | rfl | rfl | rfl <;>
      (simp only [if_true, Option.bind_some, List.length_cons, List.length_nil]
       rw [if_pos (by omega), if_pos (by omega)]
       simp only [rd, Option.bind_some, Bool.true_and]
       congr 1
       rw [Bool.eq_iff_iff]
       simp [insOkB, show Go.bits .and .i64 0 1 = 0 by decide, show Go.bits .and .i64 0 2 = 0 by decide, show Go.bits .and .i64 0 4 = 0 by decide, show Go.bits .and .i64 0 8 = 0 by decide,
        show Go.bits .and .i64 7 1 = 1 by decide, show Go.bits .and .i64 7 2 = 2 by decide, show Go.bits .and .i64 7 4 = 4 by decide, show Go.bits .and .i64 7 8 = 0 by decide,
        show Go.bits .and .i64 8 1 = 0 by decide, show Go.bits .and .i64 8 2 = 0 by decide, show Go.bits .and .i64 8 4 = 0 by decide, show Go.bits .and .i64 8 8 = 8 by decide,
        show Go.bits .and .i64 9 1 = 1 by decide, show Go.bits .and .i64 9 2 = 0 by decide, show Go.bits .and .i64 9 4 = 0 by decide, show Go.bits .and .i64 9 8 = 8 by decide,
        show Go.bits .and .i64 10 1 = 0 by decide, show Go.bits .and .i64 10 2 = 2 by decide, show Go.bits .and .i64 10 4 = 0 by decide, show Go.bits .and .i64 10 8 = 8 by decide,
        show Go.bits .and .i64 11 1 = 1 by decide, show Go.bits .and .i64 11 2 = 2 by decide, show Go.bits .and .i64 11 4 = 0 by decide, show Go.bits .and .i64 11 8 = 8 by decide,
        show Go.bits .and .i64 14 1 = 0 by decide, show Go.bits .and .i64 14 2 = 2 by decide, show Go.bits .and .i64 14 4 = 4 by decide, show Go.bits .and .i64 14 8 = 8 by decide,
        show Go.bits .and .i64 15 1 = 1 by decide, show Go.bits .and .i64 15 2 = 2 by decide, show Go.bits .and .i64 15 4 = 4 by decide, show Go.bits .and .i64 15 8 = 8 by decide]
       try omega)
  · have hn : ∀ c, 1 ≤ c → c ≤ 10 → o ≠ c := fun c h1 h2 e => ho (by omega)
    simp [ho, insOkB, hn]
/-- The word of an Ins. -/
def codeW (o r a b n : Int) : Int := if insOkB o r a b n = true then o + 16 * r + 64 * a + 256 * b + 1024 * n else 0
theorem insOkB_bounds {o r a b n : Int} (h : insOkB o r a b n = true) : 1 ≤ o ∧ o ≤ 10 ∧ 0 ≤ r ∧ r ≤ 3 ∧ 0 ≤ a ∧ a ≤ 3 ∧ 0 ≤ b ∧ b ≤ 3 ∧ 0 ≤ n ∧ n ≤ 63 := by
  unfold insOkB at h
  simp only [Bool.and_eq_true, decide_eq_true_eq] at h
  obtain ⟨h0, ⟨h1, h1'⟩, ⟨h2, h2'⟩, ⟨h3, h3'⟩, ⟨h4, h4'⟩⟩ := h
  refine ⟨?_, ?_, h1, h1', h2, h2', h3, h3', h4, h4'⟩
  · by_cases c : 1 ≤ o
    · exact c
    · exfalso
      rw [if_neg (by omega), if_neg (by omega), if_neg (by omega), if_neg (by omega), if_neg (by omega), if_neg (by omega), if_neg (by omega), if_neg (by omega), if_neg (by omega), if_neg (by omega)] at h0
      cases h0
  · by_cases c : o ≤ 10
    · exact c
    · exfalso
      rw [if_neg (by omega), if_neg (by omega), if_neg (by omega), if_neg (by omega), if_neg (by omega), if_neg (by omega), if_neg (by omega), if_neg (by omega), if_neg (by omega), if_neg (by omega)] at h0
      cases h0
theorem implCode_eq (o r a b n : Int) : impl_Code.f o r a b n = some (codeW o r a b n, insOkB o r a b n) := by
  unfold impl_Code.f impl_InsOk.f codeW
  rw [Option.bind_some]
  by_cases h : insOkB o r a b n = true
  · have hb := insOkB_bounds h
    rw [if_pos h, if_pos h, h]
    congr 2
    simp only [wrap_small (x := 16 * r) (by omega) (by omega), wrap_small (x := 64 * a) (by omega) (by omega), wrap_small (x := 256 * b) (by omega) (by omega), wrap_small (x := 1024 * n) (by omega) (by omega), wrap_small (x := o + 16 * r) (by omega) (by omega), wrap_small (x := o + 16 * r + 64 * a) (by omega) (by omega), wrap_small (x := o + 16 * r + 64 * a + 256 * b) (by omega) (by omega), wrap_small (x := o + 16 * r + 64 * a + 256 * b + 1024 * n) (by omega) (by omega)]
  · have h' : insOkB o r a b n = false := by simpa using h
    rw [if_neg h, if_neg h, h']
theorem specCode_eq (o r a b n : Int) : spec_Code.f o r a b n = some (codeW o r a b n, insOkB o r a b n) := by
  rw [← implCode_eq]; unfold spec_Code.f impl_Code.f
  rw [specInsOk_eq]; rfl
theorem rdIns (l : List S54) (i : Nat) (h : i < l.length) : rd_T54 l (i : Int) = l[i] := by
  unfold rd_T54; simp [List.getD, h]
def insW (x : S54) : Int := codeW x.f0 x.f1 x.f2 x.f3 x.f4
theorem l25Codes_eq (l : List S54) (hl : l.length ≤ 2097152) (k : Nat) (hk : l.length < k) : spec_l25Codes.f k l = some (l.map insW) := by
  unfold spec_l25Codes.f
  have h := for_st l.length (fun k i (s : List Int) => spec_l25Codes.l0 k l s (i : Int)) (fun i => (l.take i).map insW) (l.map insW) ?_ ?_ k 0 (Nat.zero_le _) (by omega)
  · simpa using h
  · intro k i hi
    simp only [spec_l25Codes.l0]
    rw [if_pos (by omega), if_pos (by omega), specCode_eq, Option.bind_some, if_pos (by simp; omega), wrap_succ (by omega), rdIns l i hi]
    rw [← snoc_step l i hi, List.map_append]; rfl
  · intro k
    simp only [spec_l25Codes.l0]
    rw [if_neg (by omega)]; simp
theorem coded_l (l : List S54) (hl : l.length ≤ 2097152) (k : Nat) (hk : l.length < k) : impl_coded.l0 k [] l (l.length : Int) 0 = some (l.map insW, true) := by
  have h := for_st l.length (fun k i (s : List Int) => impl_coded.l0 k s l (l.length : Int) (i : Int)) (fun i => (l.take i).map insW) (l.map insW, true) ?_ ?_ k 0 (Nat.zero_le _) (by omega)
  · simpa using h
  · intro k i hi
    simp only [impl_coded.l0]
    rw [if_pos (by omega), if_pos (by omega), if_pos (by omega), implCode_eq, Option.bind_some, if_pos (by simp; omega), wrap_succ (by omega), rdIns l i hi]
    rw [← snoc_step l i hi, List.map_append]; rfl
  · intro k
    simp only [impl_coded.l0]
    rw [if_neg (by omega)]; simp
/-- May so many words that count a cell lie from an address on? -/
def codedB (cell times at_ : Int) (n : Nat) : Bool := decide (0 ≤ cell ∧ cell ≤ 23) && (decide (1 ≤ times ∧ times ≤ 63) && (decide (0 ≤ at_ ∧ at_ ≤ 24 - (n : Int)) && !decide (at_ ≤ cell ∧ cell ≤ at_ + (n : Int) - 1)))
theorem coded_eq (cell times at_ : Int) (l : List S54) (hl : l.length ≤ 1000) (k : Nat) (hk : l.length + 1 < k) :
    impl_coded.f k cell times at_ l = some (if codedB cell times at_ l.length = true then l.map insW else [], codedB cell times at_ l.length) := by
  obtain ⟨k, rfl⟩ : ∃ m, k = m + 1 := ⟨k - 1, by omega⟩
  unfold impl_coded.f codedB
  simp only [isCell_eq, from_eq, Option.bind_some, impl_coded.j0]
  rw [wrap_small (x := 24 - (l.length : Int)) (by omega) (by omega)]
  by_cases h1 : 0 ≤ cell ∧ cell ≤ 23
  · rw [decide_eq_true h1, if_pos rfl]
    by_cases h2 : 1 ≤ times ∧ times ≤ 63
    · rw [decide_eq_true h2, if_pos rfl]
      by_cases h3 : 0 ≤ at_ ∧ at_ ≤ 24 - (l.length : Int)
      · rw [decide_eq_true h3, if_pos rfl, wrap_small (x := at_ + (l.length : Int)) (by omega) (by omega), wrap_small (x := at_ + (l.length : Int) - 1) (by omega) (by omega)]
        by_cases h4 : at_ ≤ cell ∧ cell ≤ at_ + (l.length : Int) - 1
        · rw [decide_eq_true h4, if_pos rfl]; rfl
        · rw [decide_eq_false h4, if_neg (by simp), coded_l l (by omega) k (by omega)]; rfl
      · rw [decide_eq_false h3]; rfl
    · rw [decide_eq_false h2]; rfl
  · rw [decide_eq_false h1]; rfl
theorem l25Ok_eq (cell times at_ : Int) (n : Nat) (hn : n ≤ 1000) : spec_l25Ok.f cell times at_ (n : Int) = some (codedB cell times at_ n) := by
  unfold spec_l25Ok.f codedB
  simp only [l1In_eq, Option.bind_some]
  rw [wrap_small (x := 24 - (n : Int)) (by omega) (by omega)]
  by_cases h1 : 0 ≤ cell ∧ cell ≤ 23
  · rw [decide_eq_true h1, if_pos rfl]
    by_cases h2 : 1 ≤ times ∧ times ≤ 63
    · rw [decide_eq_true h2, if_pos rfl]
      by_cases h3 : 0 ≤ at_ ∧ at_ ≤ 24 - (n : Int)
      · rw [decide_eq_true h3, if_pos rfl, wrap_small (x := at_ + (n : Int)) (by omega) (by omega), wrap_small (x := at_ + (n : Int) - 1) (by omega) (by omega)]; rfl
      · rw [decide_eq_false h3]; rfl
    · rw [decide_eq_false h2]; rfl
  · rw [decide_eq_false h1]; rfl
def countCodeIns (a0 a1 a2 : Int) : List S54 := [(⟨1, 0, 0, 0, a1⟩ : S54), (⟨1, 1, 0, 0, 1⟩ : S54), (⟨6, 2, 3, 1, a0⟩ : S54), (⟨10, 0, 0, 1, 0⟩ : S54), (⟨7, 0, 0, 0, wrap64 (a2 + 6)⟩ : S54), (⟨8, 0, 0, 0, wrap64 (a2 + 2)⟩ : S54), (⟨9, 0, 0, 0, 0⟩ : S54)]
def countCodeW (a0 a1 a2 : Int) : List Int := if codedB a0 a1 a2 7 = true then (countCodeIns a0 a1 a2).map insW else []
theorem countCodeW_length (a0 a1 a2 : Int) : (countCodeW a0 a1 a2).length ≤ 7 := by
  unfold countCodeW; by_cases h : codedB a0 a1 a2 7 = true
  · rw [if_pos h]; simp [countCodeIns]
  · rw [if_neg h]; simp
theorem implCountCode_eq (a0 a1 a2 : Int) (k : Nat) (hk : 20 < k) : impl_CountCode.f k a0 a1 a2 = some (countCodeW a0 a1 a2, codedB a0 a1 a2 7) := by
  have h := coded_eq a0 a1 a2 (countCodeIns a0 a1 a2) (by simp [countCodeIns]) k (by simp [countCodeIns]; omega)
  unfold impl_CountCode.f
  have h' : impl_coded.f k a0 a1 a2 [(⟨1, 0, 0, 0, a1⟩ : S54), (⟨1, 1, 0, 0, 1⟩ : S54), (⟨6, 2, 3, 1, a0⟩ : S54), (⟨10, 0, 0, 1, 0⟩ : S54), (⟨7, 0, 0, 0, wrap64 (a2 + 6)⟩ : S54), (⟨8, 0, 0, 0, wrap64 (a2 + 2)⟩ : S54), (⟨9, 0, 0, 0, 0⟩ : S54)] = some (countCodeW a0 a1 a2, codedB a0 a1 a2 7) := h
  rw [h']; rfl
theorem specCountCode_eq (a0 a1 a2 : Int) (k : Nat) (hk : 20 < k) : spec_CountCode.f k a0 a1 a2 = some (countCodeW a0 a1 a2, codedB a0 a1 a2 7) := by
  unfold spec_CountCode.f countCodeW
  have e := l25Ok_eq a0 a1 a2 7 (by omega)
  rw [show ((7 : Nat) : Int) = 7 from rfl] at e
  rw [e, Option.bind_some]
  by_cases h : codedB a0 a1 a2 7 = true
  · have h2 : spec_l25Codes.f k [(⟨1, 0, 0, 0, a1⟩ : S54), (⟨1, 1, 0, 0, 1⟩ : S54), (⟨6, 2, 3, 1, a0⟩ : S54), (⟨10, 0, 0, 1, 0⟩ : S54), (⟨7, 0, 0, 0, wrap64 (a2 + 6)⟩ : S54), (⟨8, 0, 0, 0, wrap64 (a2 + 2)⟩ : S54), (⟨9, 0, 0, 0, 0⟩ : S54)] = some ((countCodeIns a0 a1 a2).map insW) := l25Codes_eq (countCodeIns a0 a1 a2) (by simp [countCodeIns]) k (by simp [countCodeIns]; omega)
    rw [if_pos h, if_pos h, h2, h]; rfl
  · have h' : codedB a0 a1 a2 7 = false := by simpa using h
    rw [if_neg h, if_neg h, h']
def loseCodeIns (a0 a1 a2 : Int) : List S54 := [(⟨1, 0, 0, 0, a1⟩ : S54), (⟨1, 1, 0, 0, 1⟩ : S54), (⟨4, 2, 3, 0, a0⟩ : S54), (⟨2, 2, 2, 1, 0⟩ : S54), (⟨5, 0, 3, 2, a0⟩ : S54), (⟨10, 0, 0, 1, 0⟩ : S54), (⟨7, 0, 0, 0, wrap64 (a2 + 8)⟩ : S54), (⟨8, 0, 0, 0, wrap64 (a2 + 2)⟩ : S54), (⟨9, 0, 0, 0, 0⟩ : S54)]
def loseCodeW (a0 a1 a2 : Int) : List Int := if codedB a0 a1 a2 9 = true then (loseCodeIns a0 a1 a2).map insW else []
theorem loseCodeW_length (a0 a1 a2 : Int) : (loseCodeW a0 a1 a2).length ≤ 9 := by
  unfold loseCodeW; by_cases h : codedB a0 a1 a2 9 = true
  · rw [if_pos h]; simp [loseCodeIns]
  · rw [if_neg h]; simp
theorem implLoseCode_eq (a0 a1 a2 : Int) (k : Nat) (hk : 20 < k) : impl_LoseCode.f k a0 a1 a2 = some (loseCodeW a0 a1 a2, codedB a0 a1 a2 9) := by
  have h := coded_eq a0 a1 a2 (loseCodeIns a0 a1 a2) (by simp [loseCodeIns]) k (by simp [loseCodeIns]; omega)
  unfold impl_LoseCode.f
  have h' : impl_coded.f k a0 a1 a2 [(⟨1, 0, 0, 0, a1⟩ : S54), (⟨1, 1, 0, 0, 1⟩ : S54), (⟨4, 2, 3, 0, a0⟩ : S54), (⟨2, 2, 2, 1, 0⟩ : S54), (⟨5, 0, 3, 2, a0⟩ : S54), (⟨10, 0, 0, 1, 0⟩ : S54), (⟨7, 0, 0, 0, wrap64 (a2 + 8)⟩ : S54), (⟨8, 0, 0, 0, wrap64 (a2 + 2)⟩ : S54), (⟨9, 0, 0, 0, 0⟩ : S54)] = some (loseCodeW a0 a1 a2, codedB a0 a1 a2 9) := h
  rw [h']; rfl
theorem specLoseCode_eq (a0 a1 a2 : Int) (k : Nat) (hk : 20 < k) : spec_LoseCode.f k a0 a1 a2 = some (loseCodeW a0 a1 a2, codedB a0 a1 a2 9) := by
  unfold spec_LoseCode.f loseCodeW
  have e := l25Ok_eq a0 a1 a2 9 (by omega)
  rw [show ((9 : Nat) : Int) = 9 from rfl] at e
  rw [e, Option.bind_some]
  by_cases h : codedB a0 a1 a2 9 = true
  · have h2 : spec_l25Codes.f k [(⟨1, 0, 0, 0, a1⟩ : S54), (⟨1, 1, 0, 0, 1⟩ : S54), (⟨4, 2, 3, 0, a0⟩ : S54), (⟨2, 2, 2, 1, 0⟩ : S54), (⟨5, 0, 3, 2, a0⟩ : S54), (⟨10, 0, 0, 1, 0⟩ : S54), (⟨7, 0, 0, 0, wrap64 (a2 + 8)⟩ : S54), (⟨8, 0, 0, 0, wrap64 (a2 + 2)⟩ : S54), (⟨9, 0, 0, 0, 0⟩ : S54)] = some ((loseCodeIns a0 a1 a2).map insW) := l25Codes_eq (loseCodeIns a0 a1 a2) (by simp [loseCodeIns]) k (by simp [loseCodeIns]; omega)
    rw [if_pos h, if_pos h, h2, h]; rfl
  · have h' : codedB a0 a1 a2 9 = false := by simpa using h
    rw [if_neg h, if_neg h, h']
/-- Do these words fit here. -/
def placeB (m : List Int) (at' : Int) (c : List Int) : Bool := wordsB m 24 && (decide (0 ≤ at' ∧ at' + (c.length : Int) ≤ 24) && wordsB c (c.length : Int))
def splice (m : List Int) (a : Nat) (c : List Int) : List Int := m.take a ++ (c ++ m.drop (a + c.length))
/-- Memory with words placed in it, if they fit. -/
def placeV (m : List Int) (at' : Int) (c : List Int) : List Int × Bool := if placeB m at' c = true then (splice m at'.toNat c, true) else (m, false)
theorem splice_length (m : List Int) (a : Nat) (c : List Int) (h : a + c.length ≤ m.length) : (splice m a c).length = m.length := by
  unfold splice; rw [List.length_append, List.length_append, List.length_take, List.length_drop]; omega
theorem placeB_parts {m : List Int} {at' : Int} {c : List Int} (h : placeB m at' c = true) : wordsB m 24 = true ∧ (0 ≤ at' ∧ at' + (c.length : Int) ≤ 24) ∧ wordsB c (c.length : Int) = true := by
  unfold placeB at h; rw [Bool.and_eq_true, Bool.and_eq_true] at h; exact ⟨h.1, of_decide_eq_true h.2.1, h.2.2⟩
theorem wordsB_24 {l : List Int} (h : wordsB l 24 = true) : l.length = 24 := by unfold wordsB at h; rw [Bool.and_eq_true] at h; have := of_decide_eq_true h.1; omega
theorem placeV_length (m : List Int) (at' : Int) (c : List Int) : (placeV m at' c).1.length = m.length := by
  unfold placeV
  by_cases h : placeB m at' c = true
  · obtain ⟨h1, h2, _⟩ := placeB_parts h
    rw [if_pos h]; exact splice_length _ _ _ (by have := wordsB_24 h1; omega)
  · rw [if_neg h]
theorem splice_step (m c : List Int) (a i : Nat) (hi : i < c.length) (ha : a + c.length ≤ m.length) : (m.take a ++ (c.take i ++ m.drop (a + i))).set (a + i) (c[i]'hi) = m.take a ++ (c.take (i + 1) ++ m.drop (a + (i + 1))) := by
  rw [List.set_append_right _ _ (by simp; omega), List.length_take, Nat.min_eq_left (by omega), Nat.add_sub_cancel_left, List.set_append_right _ _ (by simp; omega), List.length_take, Nat.min_eq_left (by omega), Nat.sub_self, List.drop_eq_getElem_cons (by omega), List.set_cons_zero, List.take_succ_eq_append_getElem hi, List.append_assoc]
  rfl
theorem implPlace_eq (m : List Int) (at' : Int) (c : List Int) (hm : m.length ≤ 1048576) (hc : c.length ≤ 1048576) (k : Nat) (hk : 3000000 < k) : impl_Place.f k m at' c = some (placeV m at' c) := by
  unfold impl_Place.f placeV slices_Clone_int_int.f
  rw [if_pos (by omega), Option.bind_some, memOk_eq m (by omega) k (by omega), Option.bind_some]
  by_cases w : wordsB m 24 = true
  · have ln := wordsB_24 w
    rw [if_pos w, from_eq, Option.bind_some]
    by_cases hf : 0 ≤ at' ∧ at' ≤ 24
    · rw [if_pos (decide_eq_true hf), wrap_small (by omega) (by omega)]
      by_cases hg : (c.length : Int) > 24 - at'
      · rw [if_pos hg, if_neg]
        intro hp; have := (placeB_parts hp).2.1; omega
      · rw [if_neg hg, wordsOk_eq c _ (by omega) k (by omega), Option.bind_some]
        by_cases wc : wordsB c (c.length : Int) = true
        · rw [if_pos wc, if_pos hf.1, if_pos (by omega), if_pos (by omega), if_pos]
          · rfl
          · unfold placeB; rw [w, wc, decide_eq_true ⟨hf.1, by omega⟩]; rfl
        · rw [if_neg wc, if_neg]
          intro hp; exact wc (placeB_parts hp).2.2
    · rw [if_neg (by simpa using hf), if_neg]
      intro hp; have := (placeB_parts hp).2.1; omega
  · rw [if_neg w, if_neg]
    intro hp; exact w (placeB_parts hp).1
theorem specPlace_eq (m : List Int) (at' : Int) (c : List Int) (hm : m.length ≤ 1048576) (hc : c.length ≤ 1048576) (k : Nat) (hk : 3000000 < k) : spec_Place.f k m at' c = some (placeV m at' c) := by
  obtain ⟨k, rfl⟩ : ∃ j, k = j + 1 := ⟨k - 1, by omega⟩
  unfold spec_Place.f placeV
  rw [Option.bind_some, if_pos (by simp; omega), Option.bind_some, List.nil_append, l1Words_eq m 24 (by omega) _ (by omega), Option.bind_some]
  have jt : spec_Place.j0 (k + 1) at' c m true = some (m, false) := by rw [spec_Place.j0, if_pos rfl]
  by_cases w : wordsB m 24 = true
  · have ln := wordsB_24 w
    rw [if_pos w, wrap_small (by omega) (by omega)]
    by_cases h0 : at' < 0
    · rw [if_pos h0, jt, if_neg]
      intro hp; have := (placeB_parts hp).2.1; omega
    · rw [if_neg h0]
      by_cases h1 : at' > 24 - (c.length : Int)
      · rw [if_pos h1, jt, if_neg]
        intro hp; have := (placeB_parts hp).2.1; omega
      · rw [if_neg h1, l1Words_eq c _ (by omega) _ (by omega), Option.bind_some]
        by_cases wc : wordsB c (c.length : Int) = true
        · rw [wc, spec_Place.j0, if_neg (by simp), if_pos (show placeB m at' c = true by unfold placeB; rw [w, wc, decide_eq_true ⟨by omega, by omega⟩]; rfl)]
          obtain ⟨a, rfl⟩ : ∃ a : Nat, at' = (a : Int) := ⟨at'.toNat, by omega⟩
          have h := for_st c.length (fun k' i (s : List Int) => spec_Place.l0 k' (a : Int) c s (i : Int)) (fun i => m.take a ++ (c.take i ++ m.drop (a + i))) (splice m a c, true) ?_ ?_ k 0 (Nat.zero_le _) (by omega)
          · simpa using h
          · intro k' i hi
            simp only [spec_Place.l0]
            have e : wrap64 ((a : Int) + (i : Int)) = ((a + i : Nat) : Int) := by unfold wrap64; omega
            rw [e, if_pos (by omega), if_pos (by omega), if_pos (by omega), if_pos (by simp; omega), wrap_succ (by omega), rd_nat c i hi, Int.toNat_natCast, splice_step m c a i hi (by omega)]
          · intro k'
            simp only [spec_Place.l0]
            rw [if_neg (by omega), List.take_of_length_le (Nat.le_refl _)]; rfl
        · have wc' : wordsB c (c.length : Int) = false := by rw [Bool.eq_false_iff]; exact wc
          rw [wc', Bool.not_false, jt, if_neg]
          intro hp; exact wc (placeB_parts hp).2.2
  · rw [if_neg w, jt, if_neg]
    intro hp; exact w (placeB_parts hp).1
theorem specAllHalt_eq (l : List S31) (hl : l.length ≤ 1048576) (k : Nat) (hk : l.length < k) {q : Bool} (hq : q = true ↔ (∀ j, j < l.length → (rd_T31 l (j : Int)).f2 = 1) ∧ decide ((l.length : Int) > 0) = true) : spec_AllHalt.f k l = some q := by
  unfold spec_AllHalt.f
  refine for_all (L := fun k i => spec_AllHalt.l0 k l (i : Int)) (n := l.length) (fun j => (rd_T31 l (j : Int)).f2 = 1) ?_ ?_ (decide ((l.length : Int) > 0)) ?_ hq k hk
  · intro k i hi hp
    rw [spec_AllHalt.l0, if_pos (by omega), if_pos (by omega), if_pos hp, wrap_succ (by omega)]
  · intro k i hi hp
    rw [spec_AllHalt.l0, if_pos (by omega), if_pos (by omega), if_neg hp]
  · intro k
    rw [spec_AllHalt.l0, if_neg (by omega)]
theorem implAllHalt_eq (l : List S31) (hl : l.length ≤ 1048576) (k : Nat) (hk : l.length < k) {q : Bool} (hq : q = true ↔ (∀ j, j < l.length → (rd_T31 l (j : Int)).f2 = 1) ∧ decide ((l.length : Int) > 0) = true) : impl_AllHalt.f k l = some q := by
  unfold impl_AllHalt.f
  by_cases h : (l.length : Int) > 0
  · rw [if_pos h]
    unfold slices_ContainsFunc_at_impl_AllHalt_1.f slices_IndexFunc_at_impl_AllHalt_1.f
    have hs : ∀ k i, i < l.length → ¬ ¬ (rd_T31 l (i : Int)).f2 = 1 → slices_IndexFunc_at_impl_AllHalt_1.l0 (k + 1) l (l.length : Int) (i : Int) = slices_IndexFunc_at_impl_AllHalt_1.l0 k l (l.length : Int) ((i + 1 : Nat) : Int) := by
      intro k i hi hp
      rw [slices_IndexFunc_at_impl_AllHalt_1.l0, if_pos (by omega), if_pos (by omega), if_pos (by omega), impl_AllHalt_1.f, Classical.not_not.1 hp, Option.bind_some, if_neg (by decide), wrap_succ (by omega)]
    have hb : ∀ k i, i < l.length → ¬ (rd_T31 l (i : Int)).f2 = 1 → slices_IndexFunc_at_impl_AllHalt_1.l0 (k + 1) l (l.length : Int) (i : Int) = some (i : Int) := by
      intro k i hi hp
      rw [slices_IndexFunc_at_impl_AllHalt_1.l0, if_pos (by omega), if_pos (by omega), if_pos (by omega), impl_AllHalt_1.f, Option.bind_some, if_pos (by simpa using hp)]
    have he : ∀ k, slices_IndexFunc_at_impl_AllHalt_1.l0 (k + 1) l (l.length : Int) (l.length : Int) = some (-1) := by
      intro k
      rw [slices_IndexFunc_at_impl_AllHalt_1.l0, if_neg (by omega)]
    rcases for_find l.length (fun k i => slices_IndexFunc_at_impl_AllHalt_1.l0 k l (l.length : Int) (i : Int)) (fun j => ¬ (rd_T31 l (j : Int)).f2 = 1) (fun j => (j : Int)) (-1) hs hb he k 0 (Nat.zero_le _) (by omega) with ⟨j, _, h2, h3, _, h5⟩ | ⟨h1, h2⟩
    · have h5' : slices_IndexFunc_at_impl_AllHalt_1.l0 k l (l.length : Int) 0 = some (j : Int) := h5
      rw [h5']
      simp only [Option.bind_some]; congr 1; symm
      rw [decide_eq_true (by omega : (j : Int) ≥ 0), Bool.not_true, Bool.eq_false_iff]; intro hh
      exact h3 ((hq.1 hh).1 j h2)
    · have h2' : slices_IndexFunc_at_impl_AllHalt_1.l0 k l (l.length : Int) 0 = some (-1) := h2
      rw [h2']
      simp only [Option.bind_some]; congr 1; symm
      rw [decide_eq_false (by omega : ¬ (-1 : Int) ≥ 0), Bool.not_false, hq]
      exact ⟨fun j hj => Classical.not_not.1 (h1 j (Nat.zero_le _) hj), decide_eq_true h⟩
  · rw [if_neg h]; congr 1; symm
    rw [Bool.eq_false_iff]; intro hh; exact h (of_decide_eq_true (hq.1 hh).2)
theorem and_range (x : Int) (m : Nat) (hm : m < 2 ^ 62) : 0 ≤ Go.bits .and .i64 x (m : Int) ∧ Go.bits .and .i64 x (m : Int) ≤ (m : Int) := by
  have h : (BitVec.ofInt 64 x &&& BitVec.ofInt 64 (m : Int)).toNat ≤ m := by
    rw [BitVec.toNat_and]
    refine Nat.le_trans Nat.and_le_right ?_
    rw [BitVec.ofInt_natCast, BitVec.toNat_ofNat]
    exact Nat.mod_le _ _
  have e : Go.bits .and .i64 x (m : Int) = (((BitVec.ofInt 64 x &&& BitVec.ofInt 64 (m : Int)).toNat : Nat) : Int) := by
    show IntKind.i64.wrap (((BitVec.ofInt 64 x &&& BitVec.ofInt 64 (m : Int)).toNat : Nat) : Int) = _
    exact wraps_i64 _ (by omega) (by omega)
  rw [e]; omega
/-- Where a cursor may stand. -/
def curOk (c : List Int) (i : Int) : Prop := c.length ≤ 1048576 ∧ 0 ≤ i ∧ i ≤ (c.length : Int)
theorem l1New_ex (c : List Int) (hc : c.length ≤ 1048576) (k : Nat) (hk : 4010 < k) : ∃ i s, spec_l1New.f k c = some (c, i, s) ∧ curOk c i := by
  unfold spec_l1New.f
  have h : ∀ (k j : Nat) (s : Int), j ≤ 4000 → 4000 < j + k → ∃ i s', spec_l1New.l0 k c s (j : Int) = some (c, i, s') ∧ curOk c i := by
    intro k
    induction k with
    | zero => intro j s h1 h2; omega
    | succ k ih =>
      intro j s h1 h2
      rw [spec_l1New.l0]
      by_cases h : (j : Int) < (c.length : Int)
      · rw [if_pos h]
        by_cases h' : (j : Int) < 4000
        · rw [if_pos h', if_pos (by omega), wrap_succ (by omega)]; exact ih _ _ (by omega) (by omega)
        · rw [if_neg h']; exact ⟨_, _, rfl, hc, by omega, by omega⟩
      · rw [if_neg h]; exact ⟨_, _, rfl, hc, by omega, by omega⟩
  exact h k 0 _ (by omega) (by omega)
theorem l1Byte_ex (c : List Int) (i s : Int) (h : curOk c i) : ∃ b i' s', spec_l1Byte.f c i s = some (b, i', s') ∧ 0 ≤ b ∧ b ≤ 255 ∧ curOk c i' := by
  unfold spec_l1Byte.f
  obtain ⟨h1, h2, h3⟩ := h
  by_cases hl : i < (c.length : Int)
  · rw [if_pos hl, if_pos h2]
    have hr := fun x => and_range x 255 (by decide)
    exact ⟨_, _, _, rfl, (hr _).1, (hr _).2, h1, by unfold wrap64; omega, by unfold wrap64; omega⟩
  · rw [if_neg hl]
    have hr := fun x => and_range x 255 (by decide)
    exact ⟨_, _, _, rfl, (hr _).1, (hr _).2, h1, h2, h3⟩
theorem l1Below_ex (c : List Int) (i s : Int) (h : curOk c i) (n : Int) (hn : 0 < n) (hb : n ≤ 4294967296) : ∃ v i' s', spec_l1Below.f c i s n = some (v, i', s') ∧ 0 ≤ v ∧ v < n ∧ curOk c i' := by
  unfold spec_l1Below.f
  rw [if_neg (by omega)]
  by_cases hs : n ≤ 256
  · obtain ⟨b, i1, s1, e, h0, h1, hc⟩ := l1Byte_ex c i s h
    rw [if_pos hs, e, Option.bind_some, if_neg (by omega)]
    exact ⟨_, _, _, rfl, Int.tmod_nonneg _ h0, Int.tmod_lt_of_pos _ hn, hc⟩
  · obtain ⟨b1, i1, s1, e1, p1, q1, c1⟩ := l1Byte_ex c i s h
    obtain ⟨b2, i2, s2, e2, p2, q2, c2⟩ := l1Byte_ex c i1 s1 c1
    obtain ⟨b3, i3, s3, e3, p3, q3, c3⟩ := l1Byte_ex c i2 s2 c2
    obtain ⟨b4, i4, s4, e4, p4, q4, c4⟩ := l1Byte_ex c i3 s3 c3
    rw [if_neg hs]
    simp only [e1, e2, e3, e4, Option.bind_some]
    rw [if_neg (by omega)]
    exact ⟨_, _, _, rfl, Int.tmod_nonneg _ (by unfold wrap64; omega), Int.tmod_lt_of_pos _ hn, c4⟩
theorem l1Once_ex (c : List Int) (i s : Int) (h : curOk c i) (n : Int) (hn : 0 < n) (hb : n ≤ 4294967296) : ∃ v i' s', spec_l1Once.f c i s n = some (v, i', s') ∧ curOk c i' := by
  unfold spec_l1Once.f
  obtain ⟨v, i1, s1, e, _, _, hc⟩ := l1Below_ex c i s h n hn hb
  rw [e, Option.bind_some]
  exact ⟨_, _, _, rfl, hc⟩
theorem l1PickInt_ex (c : List Int) (i s : Int) (h : curOk c i) (l : List Int) (h0 : 0 < l.length) (h1 : l.length ≤ 1000) : ∃ v i' s', spec_l1PickInt.f c i s l = some (v, i', s') ∧ v ∈ l ∧ curOk c i' := by
  unfold spec_l1PickInt.f
  obtain ⟨v, i1, s1, e, p, q, hc⟩ := l1Below_ex c i s h (l.length : Int) (by omega) (by omega)
  rw [e, Option.bind_some, if_pos p, if_pos q]
  refine ⟨_, _, _, rfl, ?_, hc⟩
  obtain ⟨j, rfl⟩ : ∃ j : Nat, v = (j : Int) := ⟨v.toNat, by omega⟩
  exact rd_mem l j (by omega)
theorem l25Draw_ex (c : List Int) (hc : c.length ≤ 1048576) (k : Nat) (hk : 5000 < k) : ∃ a b d, spec_l25Draw.f k c = some (a, b, d) := by
  unfold spec_l25Draw.f
  obtain ⟨i0, s0, e0, c0⟩ := l1New_ex c hc k (by omega)
  rw [e0, Option.bind_some]
  obtain ⟨a, i1, s1, e1, _, c1⟩ := l1PickInt_ex c i0 s0 c0 [20, 23, 0, 8, 24, (-1)] (by simp) (by simp)
  obtain ⟨b, i2, s2, e2, _, c2⟩ := l1PickInt_ex c i1 s1 c1 [1, 3, 63, 64, 0, (-1)] (by simp) (by simp)
  obtain ⟨d, i3, s3, e3, _, c3⟩ := l1PickInt_ex c i2 s2 c2 [0, 1, 9, 15, 17, 18, (-1)] (by simp) (by simp)
  simp only [e1, e2, e3, Option.bind_some]
  exact ⟨_, _, _, rfl⟩
theorem l8Has_ex (o : Int) (h0 : 1 ≤ o) (h1 : o ≤ 10) : ∃ v, spec_l8Has.f o = some v := by
  unfold spec_l8Has.f
  rw [l1In_eq, decide_eq_true ⟨h0, h1⟩, Option.bind_some, if_pos rfl, Option.bind_some, if_pos (by omega), if_pos (by simp; omega)]
  exact ⟨_, rfl⟩
theorem drawIns_j1 (x : Int) (c : List Int) (i s : Int) (h : curOk c i) (o r a b n : Int) (k : Nat) : ∃ o' r' a' b' n' i' s', spec_l8DrawIns.j1 (k + 1) x c i s o r a b n = some (o', r', a', b', n', i', s') ∧ curOk c i' := by
  rw [spec_l8DrawIns.j1]
  obtain ⟨v, i1, s1, e1, _, _, c1⟩ := l1Below_ex c i s h 4 (by omega) (by omega)
  obtain ⟨v2, i2, s2, e2, _, c2⟩ := l1PickInt_ex c i s h [0, 1, 2, 4, 8, 9, 12, 20, 23] (by simp) (by simp)
  obtain ⟨v3, i3, s3, e3, _, c3⟩ := l1PickInt_ex c i1 s1 c1 [0, 1, 2, 4, 8, 9, 12, 20, 23] (by simp) (by simp)
  by_cases h1 : Go.bits .and .i64 x 4 = 0
  · rw [if_pos h1]
    by_cases h2 : Go.bits .and .i64 x 8 = 0
    · rw [if_pos h2]; exact ⟨_, _, _, _, _, _, _, rfl, h⟩
    · rw [if_neg h2, e2, Option.bind_some]; exact ⟨_, _, _, _, _, _, _, rfl, c2⟩
  · rw [if_neg h1, e1, Option.bind_some]
    by_cases h2 : Go.bits .and .i64 x 8 = 0
    · rw [if_pos h2]; exact ⟨_, _, _, _, _, _, _, rfl, c1⟩
    · rw [if_neg h2]
      simp only [e3, Option.bind_some]; exact ⟨_, _, _, _, _, _, _, rfl, c3⟩
theorem drawIns_j0 (x : Int) (c : List Int) (i s : Int) (h : curOk c i) (o r a b n : Int) (k : Nat) : ∃ o' r' a' b' n' i' s', spec_l8DrawIns.j0 (k + 2) x c i s o r a b n = some (o', r', a', b', n', i', s') ∧ curOk c i' := by
  rw [spec_l8DrawIns.j0]
  obtain ⟨v, i1, s1, e1, _, _, c1⟩ := l1Below_ex c i s h 4 (by omega) (by omega)
  by_cases h1 : Go.bits .and .i64 x 2 = 0
  · rw [if_pos h1]; exact drawIns_j1 x c i s h o r a b n k
  · rw [if_neg h1, e1, Option.bind_some]; exact drawIns_j1 x c i1 s1 c1 o r v b n k
theorem drawIns_ex (c : List Int) (i s : Int) (h : curOk c i) (k : Nat) (hk : 2 ≤ k) : ∃ o r a b n i' s', spec_l8DrawIns.f k c i s = some (o, r, a, b, n, i', s') ∧ curOk c i' := by
  obtain ⟨k, rfl⟩ : ∃ m, k = m + 2 := ⟨k - 2, by omega⟩
  unfold spec_l8DrawIns.f
  obtain ⟨o, i1, s1, e1, ho, c1⟩ := l1PickInt_ex c i s h [1, 1, 2, 3, 3, 4, 4, 5, 5, 5, 6, 6, 7, 8, 9, 10] (by simp) (by simp)
  have ho' : 1 ≤ o ∧ o ≤ 10 := by simp at ho; omega
  obtain ⟨x, ex⟩ := l8Has_ex o ho'.1 ho'.2
  rw [e1, Option.bind_some]
  simp only [ex, Option.bind_some]
  by_cases h1 : Go.bits .and .i64 x 1 = 0
  · rw [if_pos h1]; exact drawIns_j0 x c i1 s1 c1 o 0 0 0 0 k
  · obtain ⟨v, i2, s2, e2, _, _, c2⟩ := l1Below_ex c i1 s1 c1 4 (by omega) (by omega)
    rw [if_neg h1, e2, Option.bind_some]; exact drawIns_j0 x c i2 s2 c2 o v 0 0 0 k
theorem drawMem_l1 (c : List Int) (i s : Int) (T : List S54) (hT : T.length = 4) : ∀ (k j : Nat) (m : List Int), m.length = 24 → j ≤ 4 → 4 < j + k → ∃ m', spec_l9DrawMem.l1 k m T (j : Int) c i s = some (m', i, s) ∧ m'.length = 24
  | 0, j, m, _, h1, h2 => by omega
  | k + 1, j, m, hm, h1, h2 => by
    rw [spec_l9DrawMem.l1]
    by_cases h : j < 4
    · rw [if_pos (by omega), if_pos (by omega), specCode_eq, Option.bind_some, if_pos (by omega), wrap_succ (by omega)]
      exact drawMem_l1 c i s T hT k (j + 1) _ (by simpa using hm) (by omega) (by omega)
    · rw [if_neg (by omega)]; exact ⟨m, rfl, hm⟩
theorem drawMem_l2 (c : List Int) (i s : Int) (T : List S54) (hT : T.length = 4) : ∀ (k j : Nat) (m : List Int), m.length = 24 → j ≤ 4 → 4 < j + k → ∃ m', spec_l9DrawMem.l2 k m T (j : Int) c i s = some (m', i, s) ∧ m'.length = 24
  | 0, j, m, _, h1, h2 => by omega
  | k + 1, j, m, hm, h1, h2 => by
    rw [spec_l9DrawMem.l2]
    by_cases h : j < 4
    · rw [if_pos (by omega), if_pos (by omega), specCode_eq, Option.bind_some, if_pos (by omega), wrap_succ (by omega)]
      exact drawMem_l2 c i s T hT k (j + 1) _ (by simpa using hm) (by omega) (by omega)
    · rw [if_neg (by omega)]; exact ⟨m, rfl, hm⟩
theorem drawMem_l0 (c : List Int) : ∀ (k j : Nat) (m : List Int) (i s : Int), curOk c i → m.length = j → j ≤ 24 → 40 < j + k → ∃ m' i' s', spec_l9DrawMem.l0 k m (j : Int) c i s = some (m', i', s') ∧ m'.length = 24 ∧ curOk c i'
  | 0, j, m, i, s, _, _, h1, h2 => by omega
  | k + 1, j, m, i, s, hc, hm, h1, h2 => by
    rw [spec_l9DrawMem.l0]
    by_cases h : j < 24
    · obtain ⟨o, r, a, b, n, i1, s1, e1, c1⟩ := drawIns_ex c i s hc k (by omega)
      rw [if_pos (by omega), e1, Option.bind_some, specCode_eq, Option.bind_some]
      obtain ⟨v2, i2, s2, e2, _, c2⟩ := l1PickInt_ex c i1 s1 c1 [0, 1, 5, 65535] (by simp) (by simp)
      obtain ⟨v3, i3, s3, e3, c3⟩ := l1Once_ex c i1 s1 c1 9 (by omega) (by omega)
      obtain ⟨v4, i4, s4, e4, _, c4⟩ := l1PickInt_ex c i3 s3 c3 [0, 1, 5, 65535] (by simp) (by simp)
      have next : ∀ (x : Int) i s, curOk c i → ∃ m' i' s', (if m.length < 17592186044416 then (spec_l9DrawMem.l0 k (m ++ [x]) (wrap64 ((j : Int) + 1)) c i s) else none) = some (m', i', s') ∧ m'.length = 24 ∧ curOk c i' := by
        intro x i s hc
        rw [if_pos (by omega), wrap_succ (by omega)]
        exact drawMem_l0 c k (j + 1) _ i s hc (by simp; omega) (by omega) (by omega)
      by_cases h15 : (j : Int) > 15
      · rw [if_pos h15]
        simp only [e2, Option.bind_some]; exact next _ _ _ c2
      · rw [if_neg h15]
        simp only [e3, Option.bind_some]
        by_cases hv : v3 = true
        · rw [if_pos hv]
          simp only [e4, Option.bind_some]; exact next _ _ _ c4
        · rw [if_neg hv]; exact next _ _ _ c3
    · obtain ⟨v, i1, s1, e1, _, _, c1⟩ := l1Below_ex c i s hc 4 (by omega) (by omega)
      rw [if_neg (by omega), e1, Option.bind_some]
      by_cases h0 : v = 0
      · obtain ⟨m', e, hl⟩ := drawMem_l1 c i1 s1 [⟨1, 1, 0, 0, 1⟩, ⟨6, 2, 0, 1, 20⟩, ⟨10, 3, 2, 1, 0⟩, ⟨8, 0, 0, 0, 1⟩] rfl k 0 m (by omega) (by omega) (by omega)
        rw [if_pos h0]; exact ⟨_, _, _, e, hl, c1⟩
      · rw [if_neg h0]
        by_cases h1 : v = 1
        · obtain ⟨m', e, hl⟩ := drawMem_l2 c i1 s1 [⟨4, 1, 0, 0, 8⟩, ⟨3, 1, 1, 0, 1⟩, ⟨5, 0, 0, 1, 8⟩, ⟨8, 0, 0, 0, 8⟩] rfl k 0 m (by omega) (by omega) (by omega)
          rw [if_pos h1]; exact ⟨_, _, _, e, hl, c1⟩
        · rw [if_neg h1]; exact ⟨_, _, _, rfl, by omega, c1⟩
theorem drawMem_ex (c : List Int) (i s : Int) (h : curOk c i) (k : Nat) (hk : 40 < k) : ∃ m i' s', spec_l9DrawMem.f k c i s = some (m, i', s') ∧ m.length = 24 ∧ curOk c i' :=
  drawMem_l0 c k 0 [] i s h rfl (by omega) (by omega)
theorem drawPlace_l0 (m : List Int) (a : Int) (c : List Int) : ∀ (k j : Nat) (l : List Int) (i s : Int), curOk c i → l.length = j → j ≤ 4 → 6 < j + k → ∃ l', spec_DrawPlace.l0 k m a l (j : Int) c i s = some (m, a, l') ∧ l'.length ≤ 5
  | 0, j, l, i, s, _, _, h1, h2 => by omega
  | k + 1, j, l, i, s, hc, hl, h1, h2 => by
    rw [spec_DrawPlace.l0]
    obtain ⟨v, i1, s1, e1, _, hv, c1⟩ := l1Below_ex c i s hc 5 (by omega) (by omega)
    rw [e1, Option.bind_some]
    obtain ⟨v2, i2, s2, e2, _, c2⟩ := l1PickInt_ex c i1 s1 c1 [0, 7, 65535] (by simp) (by simp)
    obtain ⟨v3, i3, s3, e3, c3⟩ := l1Once_ex c i1 s1 c1 6 (by omega) (by omega)
    obtain ⟨v4, i4, s4, e4, _, c4⟩ := l1PickInt_ex c i3 s3 c3 [(-1), 65536] (by simp) (by simp)
    by_cases h : (j : Int) < v
    · rw [if_pos h]
      simp only [e2, Option.bind_some]
      rw [if_pos (by omega), wrap_succ (by omega)]
      exact drawPlace_l0 m a c k (j + 1) _ i2 s2 c2 (by simp; omega) (by omega) (by omega)
    · rw [if_neg h]
      simp only [e3, Option.bind_some]
      by_cases hb : v3 = true
      · rw [if_pos hb]
        simp only [e4, Option.bind_some]
        rw [if_pos (by omega)]; exact ⟨_, rfl, by simp; omega⟩
      · rw [if_neg hb]; exact ⟨_, rfl, by omega⟩
theorem drawPlace_ex (c : List Int) (hc : c.length ≤ 1048576) (k : Nat) (hk : 5000 < k) : ∃ m a l, spec_DrawPlace.f k c = some (m, a, l) ∧ m.length = 24 ∧ l.length ≤ 5 := by
  unfold spec_DrawPlace.f
  obtain ⟨i0, s0, e0, c0⟩ := l1New_ex c hc k (by omega)
  rw [e0, Option.bind_some]
  obtain ⟨m, i1, s1, e1, hm, c1⟩ := drawMem_ex c i0 s0 c0 k (by omega)
  obtain ⟨a, i2, s2, e2, _, c2⟩ := l1PickInt_ex c i1 s1 c1 [0, 5, 20, 23, 24, 25, (-1), 9223372036854775807] (by simp) (by simp)
  obtain ⟨l, e3, hl⟩ := drawPlace_l0 m a c k 0 [] i2 s2 c2 rfl (by omega) (by omega)
  simp only [e1, e2, Option.bind_some]
  exact ⟨m, a, l, e3, hm, hl⟩
theorem hartNew0 : spec_HartNew.f 0 = some ([0, 0, 0, 0], 0, 0) := by
  unfold spec_HartNew.f spec_l9Address.f
  rw [if_pos (by omega), if_neg (by simp)]
  rfl
theorem drawAllHalt_l0 (c : List Int) : ∀ (k j : Nat) (l : List S31) (i s : Int), curOk c i → l.length = j → j ≤ 2 → 4 < j + k → ∃ l', spec_DrawAllHalt.l0 k l (j : Int) c i s = some l' ∧ l'.length ≤ 2
  | 0, j, l, i, s, _, _, h1, h2 => by omega
  | k + 1, j, l, i, s, hc, hl, h1, h2 => by
    rw [spec_DrawAllHalt.l0]
    obtain ⟨v, i1, s1, e1, _, hv, c1⟩ := l1Below_ex c i s hc 3 (by omega) (by omega)
    rw [e1, Option.bind_some]
    obtain ⟨v2, i2, s2, e2, _, c2⟩ := l1PickInt_ex c i1 s1 c1 [1, 1, 1, 0, 2] (by simp) (by simp)
    by_cases h : (j : Int) < v
    · rw [if_pos h, hartNew0, Option.bind_some]
      simp only [e2, Option.bind_some]
      rw [if_pos (by omega), wrap_succ (by omega)]
      exact drawAllHalt_l0 c k (j + 1) _ i2 s2 c2 (by simp; omega) (by omega) (by omega)
    · rw [if_neg h]; exact ⟨_, rfl, by omega⟩
theorem drawAllHalt_ex (c : List Int) (hc : c.length ≤ 1048576) (k : Nat) (hk : 5000 < k) : ∃ l, spec_DrawAllHalt.f k c = some l ∧ l.length ≤ 2 := by
  unfold spec_DrawAllHalt.f
  obtain ⟨i0, s0, e0, c0⟩ := l1New_ex c hc k (by omega)
  rw [e0, Option.bind_some]
  exact drawAllHalt_l0 c k 0 [] i0 s0 c0 rfl (by omega) (by omega)
theorem sameInts_same (l : List Int) (hl : l.length ≤ 1048576) (k : Nat) (hk : 1048580 < k) : laws_sameInts.f k l l = some true := by
  unfold laws_sameInts.f
  rw [if_pos rfl]
  refine same_loop (C := 0) (n := l.length) (fun k i => laws_sameInts.l0 k l l (i : Int)) ?_ ?_ k (by omega)
  · intro k i hi _
    simp only [laws_sameInts.l0]
    rw [if_pos (by omega), if_pos (by omega), if_pos (by omega), if_pos trivial, wrap_succ (by omega)]
  · intro k
    simp only [laws_sameInts.l0]
    rw [if_neg (by omega)]
theorem placed_j0 (m : List Int) (p : Int) (w : List Int) (hm : m.length = 24) (hw : w.length ≤ 5) (K : Nat) (hK : 4000000 ≤ K) : laws_FnPlaced.j0 (K + 1) m p w (placeV m p w).1 (placeV m p w).2 false = some true := by
  have l3 := placeV_length m p w
  rw [laws_FnPlaced.j0, if_neg (by simp)]
  unfold placeV
  by_cases hp : placeB m p w = true
  · obtain ⟨p1, p2, p3⟩ := placeB_parts hp
    obtain ⟨n, rfl⟩ : ∃ n : Nat, p = (n : Int) := ⟨p.toNat, by omega⟩
    have ls := splice_length m n w (by omega)
    have ew : wrap64 ((n : Int) + (w.length : Int)) = ((n + w.length : Nat) : Int) := by unfold wrap64; omega
    have q1 : ((splice m n w).take (n + w.length)).drop n = w := by
      unfold splice
      rw [← List.append_assoc, List.take_append_of_le_length (by simp; omega), List.take_of_length_le (by simp; omega), List.drop_append_of_le_length (by simp; omega), List.drop_of_length_le (by simp; omega), List.nil_append]
    have q2 : (splice m n w).take n = m.take n := by
      unfold splice
      rw [List.take_append_of_le_length (by simp; omega), List.take_of_length_le (by simp; omega)]
    have q3 : (splice m n w).drop (n + w.length) = m.drop (n + w.length) := by
      unfold splice
      rw [← List.append_assoc, List.drop_append, List.drop_of_length_le (by simp; omega), List.nil_append, List.length_append, List.length_take, Nat.min_eq_left (by omega), Nat.sub_self, List.drop_zero]
    rw [if_pos hp]
    simp only [ew, Int.toNat_natCast, q1, q2, q3]
    rw [if_pos trivial, if_pos (by omega), if_pos (by omega), if_pos (by omega), sameInts_same w (by omega) K (by omega), Option.bind_some, if_pos rfl, if_pos (by omega), if_pos (by omega), sameInts_same (m.take n) (by simp; omega) K (by omega), Option.bind_some, if_pos rfl, if_pos (by omega), if_pos (by omega), sameInts_same (m.drop (n + w.length)) (by simp; omega) K (by omega), Option.bind_some]
  · rw [if_neg hp]
    simp only [Bool.false_eq_true, if_false]
    rw [sameInts_same m (by omega) K (by omega), Option.bind_some]
theorem FnPlaced : laws_FnPlaced.Pure := by
  intro l0 _ _ _
  obtain ⟨K, hK⟩ : ∃ K : Nat, 4000000 ≤ K := ⟨_, Nat.le_refl _⟩
  refine ⟨K + 1, ?_⟩
  unfold laws_FnPlaced.f laws_big.f
  rw [Option.bind_some]
  by_cases hb : (l0.length : Int) > 1048576
  · rw [decide_eq_true hb, if_pos rfl]
  rw [decide_eq_false hb, if_neg (by simp)]
  have hc : l0.length ≤ 1048576 := by omega
  obtain ⟨c, t, a, e0⟩ := l25Draw_ex l0 hc (K + 1) (by omega)
  have e1 : spec_DrawCountCode.f (K + 1) l0 = some (c, t, a) := by unfold spec_DrawCountCode.f; rw [e0]; rfl
  have e2 : spec_DrawLoseCode.f (K + 1) l0 = some (c, t, a) := by unfold spec_DrawLoseCode.f; rw [e0]; rfl
  obtain ⟨m, p, w, e3, hm, hw⟩ := drawPlace_ex l0 hc (K + 1) (by omega)
  obtain ⟨h, e4, hh⟩ := drawAllHalt_ex l0 hc (K + 1) (by omega)
  have e5 := implCountCode_eq c t a (K + 1) (by omega)
  have e6 := specCountCode_eq c t a (K + 1) (by omega)
  have e7 := implLoseCode_eq c t a (K + 1) (by omega)
  have e8 := specLoseCode_eq c t a (K + 1) (by omega)
  have e9 := implPlace_eq m p w (by omega) (by omega) (K + 1) (by omega)
  have e10 := specPlace_eq m p w (by omega) (by omega) (K + 1) (by omega)
  have l1 := countCodeW_length c t a
  have l2 := loseCodeW_length c t a
  have l3 := placeV_length m p w
  have s1 := sameInts_same (countCodeW c t a) (by omega) (K + 1) (by omega)
  have s2 := sameInts_same (loseCodeW c t a) (by omega) (K + 1) (by omega)
  have s3 := sameInts_same (placeV m p w).1 (by omega) (K + 1) (by omega)
  obtain ⟨q, hq⟩ : ∃ q : Bool, q = true ↔ (∀ j, j < h.length → (rd_T31 h (j : Int)).f2 = 1) ∧ decide ((h.length : Int) > 0) = true := by
    by_cases c : (∀ j, j < h.length → (rd_T31 h (j : Int)).f2 = 1) ∧ decide ((h.length : Int) > 0) = true
    · exact ⟨true, ⟨fun _ => c, fun _ => rfl⟩⟩
    · exact ⟨false, ⟨fun h => (by cases h), fun h => absurd h c⟩⟩
  have a1 := implAllHalt_eq h (by omega) (K + 1) (by omega) hq
  have a2 := specAllHalt_eq h (by omega) (K + 1) (by omega) hq
  have j0 := placed_j0 m p w hm hw K hK
  simp only [e1, e2, e3, e4, e5, e6, e7, e8, e9, e10, s1, s2, s3, a1, a2, Option.bind_some, bne_self_eq_false, Bool.false_eq_true, if_false, if_true, j0]
end Go.Proofs.Ytddncenhddiemaa.Pure
