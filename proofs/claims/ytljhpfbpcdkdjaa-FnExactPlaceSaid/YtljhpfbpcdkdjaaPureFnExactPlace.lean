/- For all memories, places and words, the program's Place returns what the reference's Place returns, keeps its arguments, and shares no memory: no conditions. -/
import Derived.Test.YtljhpfbpcdkdjaaPFnExactPlacex3
namespace Go.Proofs.Ytljhpfbpcdkdjaa.Pure
open Go.RowKit Go.Proofs.Ytljhpfbpcdkdjaa.PFnExactPlace Go.Proofs.YtljhpfbpcdkdjaaW.PrintWords Go.Proofs.YtljhpfbpcdkdjaaW.PrintLast
set_option linter.unusedVariables false
set_option linter.unusedSimpArgs false

theorem wrap_small {x : Int} (h0 : -9223372036854775808 ≤ x) (h : x ≤ 9223372036854775807) : wrap64 x = x := by
  unfold wrap64; omega
theorem wrap_succ {i : Nat} (h : i < 4611686018427387904) : wrap64 ((i : Int) + 1) = ((i + 1 : Nat) : Int) := by
  unfold wrap64; omega
theorem rd_nat (l : List Int) (i : Nat) (h : i < l.length) : rd l (i : Int) = l[i] := by
  unfold rd; simp [List.getD, h]
theorem rd_mem (l : List Int) (i : Nat) (h : i < l.length) : rd l (i : Int) ∈ l := by
  rw [rd_nat l i h]; exact List.getElem_mem h
/-- A loop whose state is known ahead of each round. -/
theorem for_st {σ ρ : Type} (n : Nat) (L : Nat → Nat → σ → Option ρ) (st : Nat → σ) (r : ρ) (hs : ∀ k i, i < n → L (k + 1) i (st i) = L k (i + 1) (st (i + 1))) (he : ∀ k, L (k + 1) n (st n) = some r) :
    ∀ (k i : Nat), i ≤ n → n < i + k → L k i (st i) = some r
  | 0, i, hi, hk => by omega
  | k + 1, i, hi, hk => by
    by_cases h : i < n
    · rw [hs k i h]; exact for_st n L st r hs he k (i + 1) (by omega) (by omega)
    · have : i = n := by omega
      subst this; exact he k
/-- A loop that ends at the first place where p holds. -/
theorem for_find {ρ : Type} (n : Nat) (L : Nat → Nat → Option ρ) (p : Nat → Prop) (b : Nat → ρ) (r : ρ) (hs : ∀ k i, i < n → ¬ p i → L (k + 1) i = L k (i + 1)) (hb : ∀ k i, i < n → p i → L (k + 1) i = some (b i)) (he : ∀ k, L (k + 1) n = some r) :
    ∀ (k i : Nat), i ≤ n → n < i + k → (∃ j, i ≤ j ∧ j < n ∧ p j ∧ (∀ m, i ≤ m → m < j → ¬ p m) ∧ L k i = some (b j)) ∨ (∀ j, i ≤ j → j < n → ¬ p j) ∧ L k i = some r
  | 0, i, hi, hk => by omega
  | k + 1, i, hi, hk => by
    by_cases h : i < n
    · by_cases hp : p i
      · exact .inl ⟨i, Nat.le_refl _, h, hp, fun m h1 h2 => by omega, hb k i h hp⟩
      · rw [hs k i h hp]
        rcases for_find n L p b r hs hb he k (i + 1) (by omega) (by omega) with ⟨j, h1, h2, h3, h4, h5⟩ | ⟨h1, h2⟩
        · refine .inl ⟨j, by omega, h2, h3, fun m hm1 hm2 => ?_, h5⟩
          by_cases e : m = i
          · subst e; exact hp
          · exact h4 m (by omega) hm2
        · refine .inr ⟨fun j hj1 hj2 => ?_, h2⟩
          by_cases e : j = i
          · subst e; exact hp
          · exact h1 j (by omega) hj2
    · have : i = n := by omega
      subst this; exact .inr ⟨fun j h1 h2 => by omega, he k⟩
/-- The same for a Bool: do all places pass? -/
theorem for_all {n : Nat} {L : Nat → Nat → Option Bool} (p : Nat → Prop) (hs : ∀ k i, i < n → p i → L (k + 1) i = L k (i + 1)) (hb : ∀ k i, i < n → ¬ p i → L (k + 1) i = some false) (c : Bool) (he : ∀ k, L (k + 1) n = some c) {q : Bool}
    (hq : q = true ↔ (∀ j, j < n → p j) ∧ c = true) (k : Nat) (hk : n < k) : L k 0 = some q := by
  rcases for_find n L (fun i => ¬ p i) (fun _ => false) c (fun k i h hp => hs k i h (Classical.not_not.1 hp)) (fun k i h hp => hb k i h hp) he k 0 (Nat.zero_le _) (by omega) with ⟨j, _, h2, h3, _, h5⟩ | ⟨h1, h2⟩
  · rw [h5]; congr 1; symm
    rw [Bool.eq_false_iff]; intro hh; exact h3 ((hq.1 hh).1 j h2)
  · rw [h2]; congr 1
    have : ∀ j, j < n → p j := fun j hj => Classical.not_not.1 (h1 j (Nat.zero_le _) hj)
    rw [Bool.eq_iff_iff, hq]; exact ⟨fun h => ⟨this, h⟩, fun h => h.2⟩
/-- What is written, place by place. -/
theorem set_step {α : Type} (a b : List α) (i : Nat) (hi : i < a.length) (hb : b.length = a.length) : (a.take i ++ b.drop i).set i (a[i]'hi) = a.take (i + 1) ++ b.drop (i + 1) := by
  rw [List.set_append_right _ _ (by simp; omega), List.length_take, Nat.min_eq_left (by omega), Nat.sub_self, List.take_succ_eq_append_getElem hi, List.append_assoc]
  congr 1
  rw [List.drop_eq_getElem_cons (by omega)]
  rfl
theorem snoc_step {α : Type} (a : List α) (i : Nat) (hi : i < a.length) : a.take i ++ [a[i]'hi] = a.take (i + 1) := by
  rw [List.take_succ_eq_append_getElem hi]
theorem eq_iff_all (a b : List Int) (h : a.length = b.length) : a = b ↔ ∀ j, j < a.length → rd a (j : Int) = rd b (j : Int) := by
  constructor
  · rintro rfl j _; rfl
  · intro hh; refine List.ext_getElem h (fun j h1 h2 => ?_)
    have := hh j h1
    rwa [rd_nat a j h1, rd_nat b j h2] at this
/-- What marks hold: s, s + 1, .. -/
def iota (s : Int) (n : Nat) : List Int := (List.range n).map fun (i : Nat) => s + (i : Int)
theorem iota_length (s : Int) (n : Nat) : (iota s n).length = n := by simp [iota]
theorem iota_get (s : Int) (n i : Nat) (h : i < n) : (iota s n)[i]'(by rw [iota_length]; exact h) = s + i := by simp [iota]
/-- The same as bytes. -/
def iota8 (s : Int) (n : Nat) : List Int := (List.range n).map fun (i : Nat) => (s + (i : Int)) % 256
theorem iota8_length (s : Int) (n : Nat) : (iota8 s n).length = n := by simp [iota8]
theorem iota8_get (s : Int) (n i : Nat) (h : i < n) : (iota8 s n)[i]'(by rw [iota8_length]; exact h) = (s + i) % 256 := by simp [iota8]
theorem wraps_i64 (n : Int) (h0 : 0 ≤ n) (h1 : n < 2 ^ 62) : IntKind.i64.wrap n = n := by rw [IntKind.wrap_i64]; omega
theorem and255 (x : Int) (h0 : 0 ≤ x) (h : x ≤ 65535) : Go.bits .and .i64 x 255 = x % 256 := bits_mask .i64 62 (by decide) wraps_i64 8 (by decide) x h0 (by omega)
theorem toIntS_eq (l : List Int) (hl : l.length ≤ 1048576) (k : Nat) (hk : l.length < k) : laws_toIntS.f k l = some l := by
  unfold laws_toIntS.f
  rw [if_pos (by omega), if_pos (by simp; omega)]
  have h := for_st l.length (fun k i s => laws_toIntS.l0 k l s (i : Int)) (fun i => l.take i ++ (List.replicate l.length 0).drop i) l ?_ ?_ k 0 (Nat.zero_le _) (by omega)
  · simpa using h
  · intro k i hi
    simp only [laws_toIntS.l0]
    rw [if_pos (by omega), if_pos (by omega), if_pos (by simp; omega), wrap_succ (by omega), rd_nat l i hi]
    simp only [Int.toNat_natCast]
    rw [set_step _ _ _ hi (by simp)]
  · intro k
    simp only [laws_toIntS.l0]
    rw [if_neg (by omega)]; simp
theorem eqIntS_eq (a b : List Int) (hl : a.length ≤ 1048576) (k : Nat) (hk : a.length < k) : laws_eqIntS.f k a b = some (decide (a = b)) := by
  unfold laws_eqIntS.f
  by_cases h : a.length = b.length
  · rw [if_pos (by omega)]
    refine for_all (L := fun k i => laws_eqIntS.l0 k a b (i : Int)) (n := a.length) (fun j => rd a (j : Int) = rd b (j : Int)) ?_ ?_ true ?_ ?_ k hk
    · intro k i hi hp
      simp only [laws_eqIntS.l0]
      rw [if_pos (by omega), if_pos (by omega), if_pos (by omega), if_pos hp, wrap_succ (by omega)]
    · intro k i hi hp
      simp only [laws_eqIntS.l0]
      rw [if_pos (by omega), if_pos (by omega), if_pos (by omega), if_neg hp]
    · intro k
      simp only [laws_eqIntS.l0]
      rw [if_neg (by omega)]
    · rw [decide_eq_true_iff, eq_iff_all a b h]; simp
  · rw [if_neg (by omega)]
    have : a ≠ b := fun hh => h (by rw [hh])
    simp [this]
theorem markIntS_eq (l : List Int) (s : Int) (h0 : 0 ≤ s) (h1 : s ≤ 4294967296) (hl : l.length ≤ 2097152) (k : Nat) (hk : l.length < k) : laws_markIntS.f k l s = some (s + l.length, iota s l.length) := by
  unfold laws_markIntS.f
  have h := for_st l.length (fun k i (t : List Int × Int) => laws_markIntS.l0 k t.1 t.2 (i : Int)) (fun i => ((iota s l.length).take i ++ l.drop i, s + (i : Int))) (s + l.length, iota s l.length) ?_ ?_ k 0 (Nat.zero_le _) (by omega)
  · simpa using h
  · intro k i hi
    simp only [laws_markIntS.l0]
    rw [if_pos (by simp [iota_length]; omega), if_pos (by omega), wrap_succ (by omega), wrap_small (by omega) (by omega)]
    simp only [Int.toNat_natCast]
    rw [← iota_get s l.length i hi, set_step _ _ _ (by rw [iota_length]; exact hi) (by rw [iota_length])]
    congr 1
    rw [iota_get s l.length i hi]; omega
  · intro k
    simp only [laws_markIntS.l0]
    rw [if_neg (by simp [iota_length])]
    simp [List.take_of_length_le, iota_length]
theorem heldIntS_eq (s : Int) (n : Nat) (h0 : 0 ≤ s) (h1 : s ≤ 4294967296) (hl : n ≤ 2097152) (k : Nat) (hk : n < k) : laws_heldIntS.f k (iota s n) s = some (s + n) := by
  unfold laws_heldIntS.f
  have h := for_st n (fun k i (t : Int) => laws_heldIntS.l0 k (iota s n) t (i : Int)) (fun i => s + (i : Int)) (s + n) ?_ ?_ k 0 (Nat.zero_le _) (by omega)
  · simpa using h
  · intro k i hi
    simp only [laws_heldIntS.l0]
    rw [if_pos (by simp [iota_length]; omega), if_pos (by omega), rd_nat _ _ (by rw [iota_length]; exact hi), if_pos (iota_get s n i hi), wrap_succ (by omega), wrap_small (by omega) (by omega)]
    congr 1; omega
  · intro k
    simp only [laws_heldIntS.l0]
    rw [if_neg (by simp [iota_length])]
theorem l1In_eq (x lo hi : Int) : spec_l1In.f x lo hi = some (decide (lo ≤ x ∧ x ≤ hi)) := by
  unfold spec_l1In.f
  by_cases h : x ≥ lo
  · rw [if_pos h]; have h' : lo ≤ x := h; simp [h']
  · rw [if_neg h]; have h' : ¬ lo ≤ x := h; simp [h']
theorem from_eq (x lo hi : Int) : impl_from.f x lo hi = some (decide (lo ≤ x ∧ x ≤ hi)) := by
  unfold impl_from.f
  by_cases h : x ≥ lo
  · rw [if_pos h]; have h' : lo ≤ x := h; simp [h']
  · rw [if_neg h]; have h' : ¬ lo ≤ x := h; simp [h']
theorem isWord_eq (x : Int) : impl_isWord.f x = some (decide (0 ≤ x ∧ x ≤ 65535)) := by
  unfold impl_isWord.f; rw [from_eq]; rfl
def wordsB (l : List Int) (n : Int) : Bool := decide ((l.length : Int) = n) && l.all (fun x => decide (0 ≤ x ∧ x ≤ 65535))
theorem wordsB_mem {l : List Int} {n : Int} (h : wordsB l n = true) (x : Int) (hx : x ∈ l) : 0 ≤ x ∧ x ≤ 65535 := by
  unfold wordsB at h; rw [Bool.and_eq_true, List.all_eq_true] at h; exact of_decide_eq_true (h.2 x hx)
theorem l1Words_eq (l : List Int) (n : Int) (hl : l.length ≤ 2097152) (k : Nat) (hk : l.length < k) : spec_l1Words.f k l n = some (wordsB l n) := by
  unfold spec_l1Words.f
  refine for_all (L := fun k i => spec_l1Words.l0 k l n (i : Int)) (n := l.length) (fun j => 0 ≤ rd l (j : Int) ∧ rd l (j : Int) ≤ 65535) ?_ ?_ (decide ((l.length : Int) = n)) ?_ ?_ k hk
  · intro k i hi hp
    simp only [spec_l1Words.l0]
    rw [if_pos (by omega), if_pos (by omega), l1In_eq, decide_eq_true hp, Option.bind_some, if_pos rfl, wrap_succ (by omega)]
  · intro k i hi hp
    simp only [spec_l1Words.l0]
    rw [if_pos (by omega), if_pos (by omega), l1In_eq, decide_eq_false hp, Option.bind_some, if_neg (by simp)]
  · intro k
    simp only [spec_l1Words.l0]
    rw [if_neg (by omega)]; rfl
  · unfold wordsB
    rw [Bool.and_eq_true, List.all_eq_true]
    constructor
    · rintro ⟨h1, h2⟩; exact ⟨fun j hj => of_decide_eq_true (h2 _ (rd_mem l j hj)), h1⟩
    · rintro ⟨h1, h2⟩; refine ⟨h2, fun x hx => ?_⟩
      obtain ⟨j, hj, rfl⟩ := List.getElem_of_mem hx
      have := h1 j hj; rw [rd_nat l j hj] at this; exact decide_eq_true this
theorem wordsOk_eq (l : List Int) (n : Int) (hl : l.length ≤ 2097152) (k : Nat) (hk : l.length < k) : impl_wordsOk.f k l n = some (wordsB l n) := by
  unfold impl_wordsOk.f
  by_cases h : (l.length : Int) = n
  · rw [if_pos h]
    unfold slices_ContainsFunc_at_impl_wordsOk_1.f slices_IndexFunc_at_impl_wordsOk_1.f
    have hf : ∀ x, impl_wordsOk_1.f x = some (!decide (0 ≤ x ∧ x ≤ 65535)) := fun x => by unfold impl_wordsOk_1.f; rw [isWord_eq]; rfl
    have hs : ∀ k i, i < l.length → ¬ ¬ (0 ≤ rd l (i : Int) ∧ rd l (i : Int) ≤ 65535) → slices_IndexFunc_at_impl_wordsOk_1.l0 (k + 1) l (l.length : Int) (i : Int) = slices_IndexFunc_at_impl_wordsOk_1.l0 k l (l.length : Int) ((i + 1 : Nat) : Int) := by
      intro k i hi hp
      simp only [slices_IndexFunc_at_impl_wordsOk_1.l0]
      rw [if_pos (by omega), if_pos (by omega), if_pos (by omega), hf, decide_eq_true (Classical.not_not.1 hp), Option.bind_some, if_neg (by simp), wrap_succ (by omega)]
    have hb : ∀ k i, i < l.length → ¬ (0 ≤ rd l (i : Int) ∧ rd l (i : Int) ≤ 65535) → slices_IndexFunc_at_impl_wordsOk_1.l0 (k + 1) l (l.length : Int) (i : Int) = some (i : Int) := by
      intro k i hi hp
      simp only [slices_IndexFunc_at_impl_wordsOk_1.l0]
      rw [if_pos (by omega), if_pos (by omega), if_pos (by omega), hf, decide_eq_false hp, Option.bind_some, if_pos (by simp)]
    have he : ∀ k, slices_IndexFunc_at_impl_wordsOk_1.l0 (k + 1) l (l.length : Int) (l.length : Int) = some (-1) := by
      intro k
      simp only [slices_IndexFunc_at_impl_wordsOk_1.l0]
      rw [if_neg (by omega)]
    rcases for_find l.length (fun k i => slices_IndexFunc_at_impl_wordsOk_1.l0 k l (l.length : Int) (i : Int)) (fun j => ¬ (0 ≤ rd l (j : Int) ∧ rd l (j : Int) ≤ 65535)) (fun j => (j : Int)) (-1) hs hb he k 0 (Nat.zero_le _) (by omega) with ⟨j, _, h2, h3, _, h5⟩ | ⟨h1, h2⟩
    · have h5' : slices_IndexFunc_at_impl_wordsOk_1.l0 k l (l.length : Int) 0 = some (j : Int) := h5
      rw [h5']
      simp only [Option.bind_some]; congr 1; symm
      rw [decide_eq_true (by omega : (j : Int) ≥ 0), Bool.not_true, wordsB, Bool.and_eq_false_iff]; right
      rw [Bool.eq_false_iff]; intro hh
      exact h3 (of_decide_eq_true (List.all_eq_true.1 hh _ (rd_mem l j h2)))
    · have h2' : slices_IndexFunc_at_impl_wordsOk_1.l0 k l (l.length : Int) 0 = some (-1) := h2
      rw [h2']
      simp only [Option.bind_some]; congr 1; symm
      rw [decide_eq_false (by omega : ¬ (-1 : Int) ≥ 0), Bool.not_false, wordsB, decide_eq_true h, Bool.true_and, List.all_eq_true]
      intro x hx
      obtain ⟨j, hj, rfl⟩ := List.getElem_of_mem hx
      have := Classical.not_not.1 (h1 j (Nat.zero_le _) hj); rw [rd_nat l j hj] at this; exact decide_eq_true this
  · rw [if_neg h, wordsB, decide_eq_false h, Bool.false_and]
theorem memOk_eq (l : List Int) (hl : l.length ≤ 2097152) (k : Nat) (hk : l.length < k) : impl_memOk.f k l = some (wordsB l 24) := by
  unfold impl_memOk.f; rw [wordsOk_eq l 24 hl k hk]; rfl
/-- Do these words fit here. -/
def placeB (m : List Int) (at' : Int) (c : List Int) : Bool := wordsB m 24 && (decide (0 ≤ at' ∧ at' + (c.length : Int) ≤ 24) && wordsB c (c.length : Int))
def splice (m : List Int) (a : Nat) (c : List Int) : List Int := m.take a ++ (c ++ m.drop (a + c.length))
/-- Memory with words placed in it, if they fit. -/
def placeV (m : List Int) (at' : Int) (c : List Int) : List Int × Bool := if placeB m at' c = true then (splice m at'.toNat c, true) else (m, false)
theorem splice_length (m : List Int) (a : Nat) (c : List Int) (h : a + c.length ≤ m.length) : (splice m a c).length = m.length := by
  unfold splice; rw [List.length_append, List.length_append, List.length_take, List.length_drop]; omega
theorem placeB_parts {m : List Int} {at' : Int} {c : List Int} (h : placeB m at' c = true) : wordsB m 24 = true ∧ (0 ≤ at' ∧ at' + (c.length : Int) ≤ 24) ∧ wordsB c (c.length : Int) = true := by
  unfold placeB at h; rw [Bool.and_eq_true, Bool.and_eq_true] at h; exact ⟨h.1, of_decide_eq_true h.2.1, h.2.2⟩
theorem wordsB_24 {l : List Int} (h : wordsB l 24 = true) : l.length = 24 := by unfold wordsB at h; rw [Bool.and_eq_true] at h; have := of_decide_eq_true h.1; omega
theorem placeV_length (m : List Int) (at' : Int) (c : List Int) : (placeV m at' c).1.length = m.length := by
  unfold placeV
  by_cases h : placeB m at' c = true
  · obtain ⟨h1, h2, _⟩ := placeB_parts h
    rw [if_pos h]; exact splice_length _ _ _ (by have := wordsB_24 h1; omega)
  · rw [if_neg h]
theorem splice_step (m c : List Int) (a i : Nat) (hi : i < c.length) (ha : a + c.length ≤ m.length) : (m.take a ++ (c.take i ++ m.drop (a + i))).set (a + i) (c[i]'hi) = m.take a ++ (c.take (i + 1) ++ m.drop (a + (i + 1))) := by
  rw [List.set_append_right _ _ (by simp; omega), List.length_take, Nat.min_eq_left (by omega), Nat.add_sub_cancel_left, List.set_append_right _ _ (by simp; omega), List.length_take, Nat.min_eq_left (by omega), Nat.sub_self, List.drop_eq_getElem_cons (by omega), List.set_cons_zero, List.take_succ_eq_append_getElem hi, List.append_assoc]
  rfl
theorem implPlace_eq (m : List Int) (at' : Int) (c : List Int) (hm : m.length ≤ 1048576) (hc : c.length ≤ 1048576) (k : Nat) (hk : 3000000 < k) : impl_Place.f k m at' c = some (placeV m at' c) := by
  unfold impl_Place.f placeV slices_Clone_int_int.f
  rw [if_pos (by omega), Option.bind_some, memOk_eq m (by omega) k (by omega), Option.bind_some]
  by_cases w : wordsB m 24 = true
  · have ln := wordsB_24 w
    rw [if_pos w, from_eq, Option.bind_some]
    by_cases hf : 0 ≤ at' ∧ at' ≤ 24
    · rw [if_pos (decide_eq_true hf), wrap_small (by omega) (by omega)]
      by_cases hg : (c.length : Int) > 24 - at'
      · rw [if_pos hg, if_neg]
        intro hp; have := (placeB_parts hp).2.1; omega
      · rw [if_neg hg, wordsOk_eq c _ (by omega) k (by omega), Option.bind_some]
        by_cases wc : wordsB c (c.length : Int) = true
        · rw [if_pos wc, if_pos hf.1, if_pos (by omega), if_pos (by omega), if_pos]
          · rfl
          · unfold placeB; rw [w, wc, decide_eq_true ⟨hf.1, by omega⟩]; rfl
        · rw [if_neg wc, if_neg]
          intro hp; exact wc (placeB_parts hp).2.2
    · rw [if_neg (by simpa using hf), if_neg]
      intro hp; have := (placeB_parts hp).2.1; omega
  · rw [if_neg w, if_neg]
    intro hp; exact w (placeB_parts hp).1
theorem specPlace_eq (m : List Int) (at' : Int) (c : List Int) (hm : m.length ≤ 1048576) (hc : c.length ≤ 1048576) (k : Nat) (hk : 3000000 < k) : spec_Place.f k m at' c = some (placeV m at' c) := by
  obtain ⟨k, rfl⟩ : ∃ j, k = j + 1 := ⟨k - 1, by omega⟩
  unfold spec_Place.f placeV
  rw [Option.bind_some, if_pos (by simp; omega), Option.bind_some, List.nil_append, l1Words_eq m 24 (by omega) _ (by omega), Option.bind_some]
  have jt : spec_Place.j0 (k + 1) at' c m true = some (m, false) := by rw [spec_Place.j0, if_pos rfl]
  by_cases w : wordsB m 24 = true
  · have ln := wordsB_24 w
    rw [if_pos w, wrap_small (by omega) (by omega)]
    by_cases h0 : at' < 0
    · rw [if_pos h0, jt, if_neg]
      intro hp; have := (placeB_parts hp).2.1; omega
    · rw [if_neg h0]
      by_cases h1 : at' > 24 - (c.length : Int)
      · rw [if_pos h1, jt, if_neg]
        intro hp; have := (placeB_parts hp).2.1; omega
      · rw [if_neg h1, l1Words_eq c _ (by omega) _ (by omega), Option.bind_some]
        by_cases wc : wordsB c (c.length : Int) = true
        · rw [wc, spec_Place.j0, if_neg (by simp), if_pos (show placeB m at' c = true by unfold placeB; rw [w, wc, decide_eq_true ⟨by omega, by omega⟩]; rfl)]
          obtain ⟨a, rfl⟩ : ∃ a : Nat, at' = (a : Int) := ⟨at'.toNat, by omega⟩
          have h := for_st c.length (fun k' i (s : List Int) => spec_Place.l0 k' (a : Int) c s (i : Int)) (fun i => m.take a ++ (c.take i ++ m.drop (a + i))) (splice m a c, true) ?_ ?_ k 0 (Nat.zero_le _) (by omega)
          · simpa using h
          · intro k' i hi
            simp only [spec_Place.l0]
            have e : wrap64 ((a : Int) + (i : Int)) = ((a + i : Nat) : Int) := by unfold wrap64; omega
            rw [e, if_pos (by omega), if_pos (by omega), if_pos (by omega), if_pos (by simp; omega), wrap_succ (by omega), rd_nat c i hi, Int.toNat_natCast, splice_step m c a i hi (by omega)]
          · intro k'
            simp only [spec_Place.l0]
            rw [if_neg (by omega), List.take_of_length_le (Nat.le_refl _)]; rfl
        · have wc' : wordsB c (c.length : Int) = false := by rw [Bool.eq_false_iff]; exact wc
          rw [wc', Bool.not_false, jt, if_neg]
          intro hp; exact wc (placeB_parts hp).2.2
  · rw [if_neg w, jt, if_neg]
    intro hp; exact w (placeB_parts hp).1
theorem FnExactPlace : laws_FnExactPlace.Pure := by
  intro m a c _ _ _ _ _ _ _
  obtain ⟨K, hK⟩ : ∃ K : Nat, 4000000 ≤ K := ⟨_, Nat.le_refl _⟩
  refine ⟨K + 4, ?_⟩
  unfold laws_FnExactPlace.f
  by_cases h1 : (m.length : Int) > 1048576
  · rw [if_pos h1]
  by_cases h2 : (c.length : Int) > 1048576
  · rw [if_neg h1, if_pos h2]
  have hm : m.length ≤ 1048576 := by omega
  have hc : c.length ≤ 1048576 := by omega
  have hv := placeV_length m a c
  have e1 : ∀ j, laws_toIntS.f (K + j) m = some m := fun j => toIntS_eq m hm _ (by omega)
  have e2 : ∀ j, laws_toIntS.f (K + j) c = some c := fun j => toIntS_eq c hc _ (by omega)
  have e3 : ∀ j, spec_Place.f (K + j) m a c = some (placeV m a c) := fun j => specPlace_eq m a c hm hc _ (by omega)
  have e4 : ∀ j, impl_Place.f (K + j) m a c = some (placeV m a c) := fun j => implPlace_eq m a c hm hc _ (by omega)
  have eq : ∀ (l : List Int), l.length ≤ 1048576 → ∀ j, laws_eqIntS.f (K + j) l l = some true := fun l hl j => by rw [eqIntS_eq l l hl _ (by omega), decide_eq_true rfl]
  have e5 := eq m hm
  have e6 := eq c hc
  have e7 := eq (placeV m a c).1 (by omega)
  have e8 : ∀ j, laws_markIntS.f (K + j) m 1 = some (1 + (m.length : Int), iota 1 m.length) := fun j => markIntS_eq m 1 (by omega) (by omega) (by omega) _ (by omega)
  have e9 : ∀ j, laws_markIntS.f (K + j) c (1 + (m.length : Int)) = some (1 + (m.length : Int) + (c.length : Int), iota (1 + (m.length : Int)) c.length) := fun j => markIntS_eq c _ (by omega) (by omega) (by omega) _ (by omega)
  have e10 : ∀ j, laws_markIntS.f (K + j) (placeV m a c).1 1 = some (1 + ((placeV m a c).1.length : Int), iota 1 (placeV m a c).1.length) := fun j => markIntS_eq _ 1 (by omega) (by omega) (by omega) _ (by omega)
  have e11 : ∀ j, laws_heldIntS.f (K + j) (iota 1 (placeV m a c).1.length) 1 = some (1 + ((placeV m a c).1.length : Int)) := fun j => heldIntS_eq 1 _ (by omega) (by omega) (by omega) _ (by omega)
  have n1 : ¬ (1 + (m.length : Int) + (c.length : Int) < 0) := by omega
  have n2 : ¬ (1 + ((placeV m a c).1.length : Int) < 0) := by omega
  have j2 : laws_FnExactPlace.j2 (K + 2) (iota 1 (placeV m a c).1.length) (1 + ((placeV m a c).1.length : Int)) false = some true := by
    rw [show K + 2 = (K + 1) + 1 from rfl, laws_FnExactPlace.j2, if_neg (by simp), e11, Option.bind_some, if_neg n2, if_pos rfl]
  have j1 : laws_FnExactPlace.j1 (K + 3) m a c (placeV m a c).1 (placeV m a c).2 (placeV m a c).1 false = some true := by
    rw [show K + 3 = (K + 2) + 1 from rfl, laws_FnExactPlace.j1]
    simp only [e1, e2, e4, e7, e10, e11, Option.bind_some, if_true, if_neg n2, Bool.false_eq_true, if_false, bne_self_eq_false, j2]
  have j0 : laws_FnExactPlace.j0 (K + 4) m a c (placeV m a c).1 (placeV m a c).2 m c (placeV m a c).1 (placeV m a c).2 false = some true := by
    rw [show K + 4 = (K + 3) + 1 from rfl, laws_FnExactPlace.j0]
    simp only [e1, e2, e5, e6, e7, e8, e9, Option.bind_some, if_true, if_neg n1, Bool.false_eq_true, if_false, bne_self_eq_false, j1]
  simp only [e1, e2, e3, e4, e7, Option.bind_some, if_neg h1, if_neg h2, if_true, bne_self_eq_false, j0]
end Go.Proofs.Ytljhpfbpcdkdjaa.Pure
