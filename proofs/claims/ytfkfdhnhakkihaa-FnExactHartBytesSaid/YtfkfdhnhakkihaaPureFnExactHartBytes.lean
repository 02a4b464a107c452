/- For all harts, the program's HartBytes returns what the reference's HartBytes returns, keeps its argument, and shares no memory: no conditions. -/
import Derived.Test.YtfkfdhnhakkihaaPFnExactHartBytesx4
namespace Go.Proofs.Ytfkfdhnhakkihaa.Pure
open Go.RowKit Go.Proofs.Ytfkfdhnhakkihaa.PFnExactHartBytes Go.Proofs.YtfkfdhnhakkihaaW.PrintWords Go.Proofs.YtfkfdhnhakkihaaW.PrintLast
set_option linter.unusedVariables false
set_option linter.unusedSimpArgs false

theorem wrap_small {x : Int} (h0 : -9223372036854775808 ≤ x) (h : x ≤ 9223372036854775807) : wrap64 x = x := by
  unfold wrap64; omega
theorem wrap_succ {i : Nat} (h : i < 4611686018427387904) : wrap64 ((i : Int) + 1) = ((i + 1 : Nat) : Int) := by
  unfold wrap64; omega
theorem rd_nat (l : List Int) (i : Nat) (h : i < l.length) : rd l (i : Int) = l[i] := by
  unfold rd; simp [List.getD, h]
theorem rd_mem (l : List Int) (i : Nat) (h : i < l.length) : rd l (i : Int) ∈ l := by
  rw [rd_nat l i h]; exact List.getElem_mem h
/-- A loop whose state is known ahead of each round. -/
theorem for_st {σ ρ : Type} (n : Nat) (L : Nat → Nat → σ → Option ρ) (st : Nat → σ) (r : ρ) (hs : ∀ k i, i < n → L (k + 1) i (st i) = L k (i + 1) (st (i + 1))) (he : ∀ k, L (k + 1) n (st n) = some r) :
    ∀ (k i : Nat), i ≤ n → n < i + k → L k i (st i) = some r
  | 0, i, hi, hk => by omega
  | k + 1, i, hi, hk => by
    by_cases h : i < n
    · rw [hs k i h]; exact for_st n L st r hs he k (i + 1) (by omega) (by omega)
    · have : i = n := by omega
      subst this; exact he k
/-- A loop that ends at the first place where p holds. -/
theorem for_find {ρ : Type} (n : Nat) (L : Nat → Nat → Option ρ) (p : Nat → Prop) (b : Nat → ρ) (r : ρ) (hs : ∀ k i, i < n → ¬ p i → L (k + 1) i = L k (i + 1)) (hb : ∀ k i, i < n → p i → L (k + 1) i = some (b i)) (he : ∀ k, L (k + 1) n = some r) :
    ∀ (k i : Nat), i ≤ n → n < i + k → (∃ j, i ≤ j ∧ j < n ∧ p j ∧ (∀ m, i ≤ m → m < j → ¬ p m) ∧ L k i = some (b j)) ∨ (∀ j, i ≤ j → j < n → ¬ p j) ∧ L k i = some r
  | 0, i, hi, hk => by omega
  | k + 1, i, hi, hk => by
    by_cases h : i < n
    · by_cases hp : p i
      · exact .inl ⟨i, Nat.le_refl _, h, hp, fun m h1 h2 => by omega, hb k i h hp⟩
      · rw [hs k i h hp]
        rcases for_find n L p b r hs hb he k (i + 1) (by omega) (by omega) with ⟨j, h1, h2, h3, h4, h5⟩ | ⟨h1, h2⟩
        · refine .inl ⟨j, by omega, h2, h3, fun m hm1 hm2 => ?_, h5⟩
          by_cases e : m = i
          · subst e; exact hp
          · exact h4 m (by omega) hm2
        · refine .inr ⟨fun j hj1 hj2 => ?_, h2⟩
          by_cases e : j = i
          · subst e; exact hp
          · exact h1 j (by omega) hj2
    · have : i = n := by omega
      subst this; exact .inr ⟨fun j h1 h2 => by omega, he k⟩
/-- The same for a Bool: do all places pass? -/
theorem for_all {n : Nat} {L : Nat → Nat → Option Bool} (p : Nat → Prop) (hs : ∀ k i, i < n → p i → L (k + 1) i = L k (i + 1)) (hb : ∀ k i, i < n → ¬ p i → L (k + 1) i = some false) (c : Bool) (he : ∀ k, L (k + 1) n = some c) {q : Bool}
    (hq : q = true ↔ (∀ j, j < n → p j) ∧ c = true) (k : Nat) (hk : n < k) : L k 0 = some q := by
  rcases for_find n L (fun i => ¬ p i) (fun _ => false) c (fun k i h hp => hs k i h (Classical.not_not.1 hp)) (fun k i h hp => hb k i h hp) he k 0 (Nat.zero_le _) (by omega) with ⟨j, _, h2, h3, _, h5⟩ | ⟨h1, h2⟩
  · rw [h5]; congr 1; symm
    rw [Bool.eq_false_iff]; intro hh; exact h3 ((hq.1 hh).1 j h2)
  · rw [h2]; congr 1
    have : ∀ j, j < n → p j := fun j hj => Classical.not_not.1 (h1 j (Nat.zero_le _) hj)
    rw [Bool.eq_iff_iff, hq]; exact ⟨fun h => ⟨this, h⟩, fun h => h.2⟩
/-- What is written, place by place. -/
theorem set_step {α : Type} (a b : List α) (i : Nat) (hi : i < a.length) (hb : b.length = a.length) : (a.take i ++ b.drop i).set i (a[i]'hi) = a.take (i + 1) ++ b.drop (i + 1) := by
  rw [List.set_append_right _ _ (by simp; omega), List.length_take, Nat.min_eq_left (by omega), Nat.sub_self, List.take_succ_eq_append_getElem hi, List.append_assoc]
  congr 1
  rw [List.drop_eq_getElem_cons (by omega)]
  rfl
theorem snoc_step {α : Type} (a : List α) (i : Nat) (hi : i < a.length) : a.take i ++ [a[i]'hi] = a.take (i + 1) := by
  rw [List.take_succ_eq_append_getElem hi]
theorem eq_iff_all (a b : List Int) (h : a.length = b.length) : a = b ↔ ∀ j, j < a.length → rd a (j : Int) = rd b (j : Int) := by
  constructor
  · rintro rfl j _; rfl
  · intro hh; refine List.ext_getElem h (fun j h1 h2 => ?_)
    have := hh j h1
    rwa [rd_nat a j h1, rd_nat b j h2] at this
/-- What marks hold: s, s + 1, .. -/
def iota (s : Int) (n : Nat) : List Int := (List.range n).map fun (i : Nat) => s + (i : Int)
theorem iota_length (s : Int) (n : Nat) : (iota s n).length = n := by simp [iota]
theorem iota_get (s : Int) (n i : Nat) (h : i < n) : (iota s n)[i]'(by rw [iota_length]; exact h) = s + i := by simp [iota]
/-- The same as bytes. -/
def iota8 (s : Int) (n : Nat) : List Int := (List.range n).map fun (i : Nat) => (s + (i : Int)) % 256
theorem iota8_length (s : Int) (n : Nat) : (iota8 s n).length = n := by simp [iota8]
theorem iota8_get (s : Int) (n i : Nat) (h : i < n) : (iota8 s n)[i]'(by rw [iota8_length]; exact h) = (s + i) % 256 := by simp [iota8]
theorem wraps_i64 (n : Int) (h0 : 0 ≤ n) (h1 : n < 2 ^ 62) : IntKind.i64.wrap n = n := by rw [IntKind.wrap_i64]; omega
theorem and255 (x : Int) (h0 : 0 ≤ x) (h : x ≤ 65535) : Go.bits .and .i64 x 255 = x % 256 := bits_mask .i64 62 (by decide) wraps_i64 8 (by decide) x h0 (by omega)
theorem toIntS_eq (l : List Int) (hl : l.length ≤ 1048576) (k : Nat) (hk : l.length < k) : laws_toIntS.f k l = some l := by
  unfold laws_toIntS.f
  rw [if_pos (by omega), if_pos (by simp; omega)]
  have h := for_st l.length (fun k i s => laws_toIntS.l0 k l s (i : Int)) (fun i => l.take i ++ (List.replicate l.length 0).drop i) l ?_ ?_ k 0 (Nat.zero_le _) (by omega)
  · simpa using h
  · intro k i hi
    simp only [laws_toIntS.l0]
    rw [if_pos (by omega), if_pos (by omega), if_pos (by simp; omega), wrap_succ (by omega), rd_nat l i hi]
    simp only [Int.toNat_natCast]
    rw [set_step _ _ _ hi (by simp)]
  · intro k
    simp only [laws_toIntS.l0]
    rw [if_neg (by omega)]; simp
theorem eqIntS_eq (a b : List Int) (hl : a.length ≤ 1048576) (k : Nat) (hk : a.length < k) : laws_eqIntS.f k a b = some (decide (a = b)) := by
  unfold laws_eqIntS.f
  by_cases h : a.length = b.length
  · rw [if_pos (by omega)]
    refine for_all (L := fun k i => laws_eqIntS.l0 k a b (i : Int)) (n := a.length) (fun j => rd a (j : Int) = rd b (j : Int)) ?_ ?_ true ?_ ?_ k hk
    · intro k i hi hp
      simp only [laws_eqIntS.l0]
      rw [if_pos (by omega), if_pos (by omega), if_pos (by omega), if_pos hp, wrap_succ (by omega)]
    · intro k i hi hp
      simp only [laws_eqIntS.l0]
      rw [if_pos (by omega), if_pos (by omega), if_pos (by omega), if_neg hp]
    · intro k
      simp only [laws_eqIntS.l0]
      rw [if_neg (by omega)]
    · rw [decide_eq_true_iff, eq_iff_all a b h]; simp
  · rw [if_neg (by omega)]
    have : a ≠ b := fun hh => h (by rw [hh])
    simp [this]
theorem eqByteS_eq (a b : List Int) (hl : a.length ≤ 2097152) (k : Nat) (hk : a.length < k) : laws_eqByteS.f k a b = some (decide (a = b)) := by
  unfold laws_eqByteS.f
  by_cases h : a.length = b.length
  · rw [if_pos (by omega)]
    refine for_all (L := fun k i => laws_eqByteS.l0 k a b (i : Int)) (n := a.length) (fun j => rd a (j : Int) = rd b (j : Int)) ?_ ?_ true ?_ ?_ k hk
    · intro k i hi hp
      simp only [laws_eqByteS.l0]
      rw [if_pos (by omega), if_pos (by omega), if_pos (by omega), if_pos hp, wrap_succ (by omega)]
    · intro k i hi hp
      simp only [laws_eqByteS.l0]
      rw [if_pos (by omega), if_pos (by omega), if_pos (by omega), if_neg hp]
    · intro k
      simp only [laws_eqByteS.l0]
      rw [if_neg (by omega)]
    · rw [decide_eq_true_iff, eq_iff_all a b h]; simp
  · rw [if_neg (by omega)]
    have : a ≠ b := fun hh => h (by rw [hh])
    simp [this]
theorem markIntS_eq (l : List Int) (s : Int) (h0 : 0 ≤ s) (h1 : s ≤ 4294967296) (hl : l.length ≤ 2097152) (k : Nat) (hk : l.length < k) : laws_markIntS.f k l s = some (s + l.length, iota s l.length) := by
  unfold laws_markIntS.f
  have h := for_st l.length (fun k i (t : List Int × Int) => laws_markIntS.l0 k t.1 t.2 (i : Int)) (fun i => ((iota s l.length).take i ++ l.drop i, s + (i : Int))) (s + l.length, iota s l.length) ?_ ?_ k 0 (Nat.zero_le _) (by omega)
  · simpa using h
  · intro k i hi
    simp only [laws_markIntS.l0]
    rw [if_pos (by simp [iota_length]; omega), if_pos (by omega), wrap_succ (by omega), wrap_small (by omega) (by omega)]
    simp only [Int.toNat_natCast]
    rw [← iota_get s l.length i hi, set_step _ _ _ (by rw [iota_length]; exact hi) (by rw [iota_length])]
    congr 1
    rw [iota_get s l.length i hi]; omega
  · intro k
    simp only [laws_markIntS.l0]
    rw [if_neg (by simp [iota_length])]
    simp [List.take_of_length_le, iota_length]
theorem markByteS_eq (l : List Int) (s : Int) (h0 : 0 ≤ s) (h1 : s ≤ 4294967296) (hl : l.length ≤ 2097152) (k : Nat) (hk : l.length < k) : laws_markByteS.f k l s = some (s + l.length, iota8 s l.length) := by
  unfold laws_markByteS.f
  have h := for_st l.length (fun k i (t : List Int × Int) => laws_markByteS.l0 k t.1 t.2 (i : Int)) (fun i => ((iota8 s l.length).take i ++ l.drop i, s + (i : Int))) (s + l.length, iota8 s l.length) ?_ ?_ k 0 (Nat.zero_le _) (by omega)
  · simpa using h
  · intro k i hi
    simp only [laws_markByteS.l0]
    rw [if_pos (by simp [iota8_length]; omega), if_pos (by omega), wrap_succ (by omega), wrap_small (by omega) (by omega)]
    simp only [Int.toNat_natCast]
    rw [← iota8_get s l.length i hi, set_step _ _ _ (by rw [iota8_length]; exact hi) (by rw [iota8_length])]
    congr 1
    omega
  · intro k
    simp only [laws_markByteS.l0]
    rw [if_neg (by simp [iota8_length])]
    simp [List.take_of_length_le, iota8_length]
theorem heldByteS_eq (s : Int) (n : Nat) (h0 : 0 ≤ s) (h1 : s ≤ 4294967296) (hl : n ≤ 2097152) (k : Nat) (hk : n < k) : laws_heldByteS.f k (iota8 s n) s = some (s + n) := by
  unfold laws_heldByteS.f
  have h := for_st n (fun k i (t : Int) => laws_heldByteS.l0 k (iota8 s n) t (i : Int)) (fun i => s + (i : Int)) (s + n) ?_ ?_ k 0 (Nat.zero_le _) (by omega)
  · simpa using h
  · intro k i hi
    simp only [laws_heldByteS.l0]
    rw [if_pos (by simp [iota8_length]; omega), if_pos (by omega), rd_nat _ _ (by rw [iota8_length]; exact hi), if_pos (iota8_get s n i hi), wrap_succ (by omega), wrap_small (by omega) (by omega)]
    congr 1; omega
  · intro k
    simp only [laws_heldByteS.l0]
    rw [if_neg (by simp [iota8_length])]
theorem l1In_eq (x lo hi : Int) : spec_l1In.f x lo hi = some (decide (lo ≤ x ∧ x ≤ hi)) := by
  unfold spec_l1In.f
  by_cases h : x ≥ lo
  · rw [if_pos h]; have h' : lo ≤ x := h; simp [h']
  · rw [if_neg h]; have h' : ¬ lo ≤ x := h; simp [h']
theorem from_eq (x lo hi : Int) : impl_from.f x lo hi = some (decide (lo ≤ x ∧ x ≤ hi)) := by
  unfold impl_from.f
  by_cases h : x ≥ lo
  · rw [if_pos h]; have h' : lo ≤ x := h; simp [h']
  · rw [if_neg h]; have h' : ¬ lo ≤ x := h; simp [h']
theorem isWord_eq (x : Int) : impl_isWord.f x = some (decide (0 ≤ x ∧ x ≤ 65535)) := by
  unfold impl_isWord.f; rw [from_eq]; rfl
theorem isCell_eq (x : Int) : impl_isCell.f x = some (decide (0 ≤ x ∧ x ≤ 23)) := by
  unfold impl_isCell.f; rw [from_eq]; rfl
def wordsB (l : List Int) (n : Int) : Bool := decide ((l.length : Int) = n) && l.all (fun x => decide (0 ≤ x ∧ x ≤ 65535))
theorem wordsB_mem {l : List Int} {n : Int} (h : wordsB l n = true) (x : Int) (hx : x ∈ l) : 0 ≤ x ∧ x ≤ 65535 := by
  unfold wordsB at h; rw [Bool.and_eq_true, List.all_eq_true] at h; exact of_decide_eq_true (h.2 x hx)
theorem l1Words_eq (l : List Int) (n : Int) (hl : l.length ≤ 2097152) (k : Nat) (hk : l.length < k) : spec_l1Words.f k l n = some (wordsB l n) := by
  unfold spec_l1Words.f
  refine for_all (L := fun k i => spec_l1Words.l0 k l n (i : Int)) (n := l.length) (fun j => 0 ≤ rd l (j : Int) ∧ rd l (j : Int) ≤ 65535) ?_ ?_ (decide ((l.length : Int) = n)) ?_ ?_ k hk
  · intro k i hi hp
    simp only [spec_l1Words.l0]
    rw [if_pos (by omega), if_pos (by omega), l1In_eq, decide_eq_true hp, Option.bind_some, if_pos rfl, wrap_succ (by omega)]
  · intro k i hi hp
    simp only [spec_l1Words.l0]
    rw [if_pos (by omega), if_pos (by omega), l1In_eq, decide_eq_false hp, Option.bind_some, if_neg (by simp)]
  · intro k
    simp only [spec_l1Words.l0]
    rw [if_neg (by omega)]; rfl
  · unfold wordsB
    rw [Bool.and_eq_true, List.all_eq_true]
    constructor
    · rintro ⟨h1, h2⟩; exact ⟨fun j hj => of_decide_eq_true (h2 _ (rd_mem l j hj)), h1⟩
    · rintro ⟨h1, h2⟩; refine ⟨h2, fun x hx => ?_⟩
      obtain ⟨j, hj, rfl⟩ := List.getElem_of_mem hx
      have := h1 j hj; rw [rd_nat l j hj] at this; exact decide_eq_true this
theorem wordsOk_eq (l : List Int) (n : Int) (hl : l.length ≤ 2097152) (k : Nat) (hk : l.length < k) : impl_wordsOk.f k l n = some (wordsB l n) := by
  unfold impl_wordsOk.f
  by_cases h : (l.length : Int) = n
  · rw [if_pos h]
    unfold slices_ContainsFunc_at_impl_wordsOk_1.f slices_IndexFunc_at_impl_wordsOk_1.f
    have hf : ∀ x, impl_wordsOk_1.f x = some (!decide (0 ≤ x ∧ x ≤ 65535)) := fun x => by unfold impl_wordsOk_1.f; rw [isWord_eq]; rfl
    have hs : ∀ k i, i < l.length → ¬ ¬ (0 ≤ rd l (i : Int) ∧ rd l (i : Int) ≤ 65535) → slices_IndexFunc_at_impl_wordsOk_1.l0 (k + 1) l (l.length : Int) (i : Int) = slices_IndexFunc_at_impl_wordsOk_1.l0 k l (l.length : Int) ((i + 1 : Nat) : Int) := by
      intro k i hi hp
      simp only [slices_IndexFunc_at_impl_wordsOk_1.l0]
      rw [if_pos (by omega), if_pos (by omega), if_pos (by omega), hf, decide_eq_true (Classical.not_not.1 hp), Option.bind_some, if_neg (by simp), wrap_succ (by omega)]
    have hb : ∀ k i, i < l.length → ¬ (0 ≤ rd l (i : Int) ∧ rd l (i : Int) ≤ 65535) → slices_IndexFunc_at_impl_wordsOk_1.l0 (k + 1) l (l.length : Int) (i : Int) = some (i : Int) := by
      intro k i hi hp
      simp only [slices_IndexFunc_at_impl_wordsOk_1.l0]
      rw [if_pos (by omega), if_pos (by omega), if_pos (by omega), hf, decide_eq_false hp, Option.bind_some, if_pos (by simp)]
    have he : ∀ k, slices_IndexFunc_at_impl_wordsOk_1.l0 (k + 1) l (l.length : Int) (l.length : Int) = some (-1) := by
      intro k
      simp only [slices_IndexFunc_at_impl_wordsOk_1.l0]
      rw [if_neg (by omega)]
    rcases for_find l.length (fun k i => slices_IndexFunc_at_impl_wordsOk_1.l0 k l (l.length : Int) (i : Int)) (fun j => ¬ (0 ≤ rd l (j : Int) ∧ rd l (j : Int) ≤ 65535)) (fun j => (j : Int)) (-1) hs hb he k 0 (Nat.zero_le _) (by omega) with ⟨j, _, h2, h3, _, h5⟩ | ⟨h1, h2⟩
    · have h5' : slices_IndexFunc_at_impl_wordsOk_1.l0 k l (l.length : Int) 0 = some (j : Int) := h5
      rw [h5']
      simp only [Option.bind_some]; congr 1; symm
      rw [decide_eq_true (by omega : (j : Int) ≥ 0), Bool.not_true, wordsB, Bool.and_eq_false_iff]; right
      rw [Bool.eq_false_iff]; intro hh
      exact h3 (of_decide_eq_true (List.all_eq_true.1 hh _ (rd_mem l j h2)))
    · have h2' : slices_IndexFunc_at_impl_wordsOk_1.l0 k l (l.length : Int) 0 = some (-1) := h2
      rw [h2']
      simp only [Option.bind_some]; congr 1; symm
      rw [decide_eq_false (by omega : ¬ (-1 : Int) ≥ 0), Bool.not_false, wordsB, decide_eq_true h, Bool.true_and, List.all_eq_true]
      intro x hx
      obtain ⟨j, hj, rfl⟩ := List.getElem_of_mem hx
      have := Classical.not_not.1 (h1 j (Nat.zero_le _) hj); rw [rd_nat l j hj] at this; exact decide_eq_true this
  · rw [if_neg h, wordsB, decide_eq_false h, Bool.false_and]
/-- Each word as two bytes. -/
def twoB (l : List Int) : List Int := l.flatMap fun x => [x / 256 % 256, x % 256]
theorem twoB_length (l : List Int) : (twoB l).length = 2 * l.length := by
  induction l with
  | nil => rfl
  | cons x l ih => simp [twoB] at ih ⊢; omega
theorem twoB_snoc (l : List Int) (x : Int) : twoB (l ++ [x]) = twoB l ++ [x / 256 % 256, x % 256] := by simp [twoB]
theorem twoBytes_eq (l : List Int) (hl : l.length ≤ 2097152) (k : Nat) (hk : l.length < k) : impl_twoBytes.f k l = some (twoB l) := by
  unfold impl_twoBytes.f
  have h := for_st l.length (fun k i (s : List Int) => impl_twoBytes.l0 k s l (l.length : Int) (i : Int)) (fun i => twoB (l.take i)) (twoB l) ?_ ?_ k 0 (Nat.zero_le _) (by omega)
  · simpa [twoB] using h
  · intro k i hi
    simp only [impl_twoBytes.l0]
    rw [if_pos (by omega), if_pos (by omega), if_pos (by omega), Option.bind_some, if_pos (by rw [twoB_length, List.length_take]; simp; omega), wrap_succ (by omega), rd_nat l i hi, ← twoB_snoc, snoc_step l i hi]
  · intro k
    simp only [impl_twoBytes.l0]
    rw [if_neg (by omega)]; simp
/-- Is it a hart: four words, a cell, a state. -/
def hartB (regs : List Int) (pc st : Int) : Bool := wordsB regs 4 && (decide (0 ≤ pc ∧ pc ≤ 23) && decide (0 ≤ st ∧ st ≤ 2))
theorem ite_some' (b c : Bool) : (if b = true then some c else some false) = some (b && c) := by cases b <;> rfl
theorem implHartOk_eq (regs : List Int) (pc st : Int) (hl : regs.length ≤ 2097152) (k : Nat) (hk : regs.length < k) : impl_HartOk.f k regs pc st = some (hartB regs pc st) := by
  unfold impl_HartOk.f hartB
  simp only [wordsOk_eq regs 4 hl k hk, isCell_eq, from_eq, Option.bind_some, ite_some']
theorem specHartOk_eq (regs : List Int) (pc st : Int) (hl : regs.length ≤ 2097152) (k : Nat) (hk : regs.length < k) : spec_HartOk.f k regs pc st = some (hartB regs pc st) := by
  unfold spec_HartOk.f hartB
  simp only [l1Words_eq regs 4 hl k hk, l1In_eq, Option.bind_some, ite_some']
theorem eqHart_same (r : List Int) (p s : Int) (hl : r.length ≤ 1048576) (k : Nat) (hk : r.length < k) : laws_eqHart.f k r p s r p s = some true := by
  unfold laws_eqHart.f
  rw [eqIntS_eq r r hl k hk, decide_eq_true rfl, Option.bind_some, if_pos rfl, if_pos rfl, if_pos rfl]
/-- The bytes of a hart. -/
def hartBytesV (r : List Int) (p s : Int) : List Int := if hartB r p s = true then twoB r ++ [p % 256, s % 256] else []
theorem hartB_len {r : List Int} {p s : Int} (h : hartB r p s = true) : r.length = 4 := by
  unfold hartB wordsB at h; rw [Bool.and_eq_true, Bool.and_eq_true] at h; have := of_decide_eq_true h.1.1; omega
theorem hartBytesV_length (r : List Int) (p s : Int) : (hartBytesV r p s).length ≤ 10 := by
  unfold hartBytesV
  by_cases h : hartB r p s = true
  · rw [if_pos h, List.length_append, twoB_length, hartB_len h]; exact Nat.le_refl 10
  · rw [if_neg h]; simp
theorem implHartBytes_eq (r : List Int) (p s : Int) (hl : r.length ≤ 1048576) (k : Nat) (hk : 1048600 < k) : impl_HartBytes.f k r p s = some (hartBytesV r p s) := by
  unfold impl_HartBytes.f hartBytesV
  rw [implHartOk_eq r p s (by omega) k (by omega), Option.bind_some]
  by_cases h : hartB r p s = true
  · rw [if_pos h, if_pos h, twoBytes_eq r (by omega) k (by omega), Option.bind_some, Option.bind_some, if_pos (by rw [twoB_length, hartB_len h]; show 2 * 4 + 2 < _; omega)]
  · rw [if_neg h, if_neg h]
theorem specHartBytes_eq (r : List Int) (p s : Int) (hl : r.length ≤ 1048576) (k : Nat) (hk : 1048600 < k) : spec_HartBytes.f k r p s = some (hartBytesV r p s) := by
  unfold spec_HartBytes.f hartBytesV
  rw [Option.bind_some, specHartOk_eq r p s (by omega) k (by omega), Option.bind_some]
  by_cases h : hartB r p s = true
  · rw [if_pos h, if_pos h]
    have ln := hartB_len h
    have hw : wordsB r 4 = true := by unfold hartB at h; rw [Bool.and_eq_true] at h; exact h.1
    have hh := for_st 4 (fun k' i (t : List Int) => spec_HartBytes.l0 k' t (i : Int) r p s) (fun i => twoB (r.take i)) (twoB r ++ [p % 256, s % 256]) ?_ ?_ k 0 (Nat.zero_le _) (by omega)
    · simpa [twoB] using hh
    · intro k' i hi
      have hx := wordsB_mem hw _ (rd_mem r i (by omega))
      simp only [spec_HartBytes.l0]
      rw [if_pos (by omega), if_pos (by omega), if_pos (by omega), Option.bind_some, if_pos (by rw [twoB_length, List.length_take]; simp; omega), wrap_succ (by omega), and255 _ hx.1 hx.2, rd_nat r i (by omega), show r[i] % 256 % 256 = r[i] % 256 by omega, ← twoB_snoc, snoc_step r i (by omega)]
    · intro k'
      simp only [spec_HartBytes.l0]
      rw [if_neg (by omega), Option.bind_some, List.take_of_length_le (by omega), if_pos (by rw [twoB_length, ln]; show 2 * 4 + 2 < _; omega)]
  · rw [if_neg h, if_neg h]
theorem markHart_eq (r : List Int) (p s : Int) (a : Int) (h0 : 0 ≤ a) (h1 : a ≤ 4294967296) (hl : r.length ≤ 1048576) (k : Nat) (hk : r.length < k) : laws_markHart.f k r p s a = some (a + r.length, iota a r.length) := by
  unfold laws_markHart.f
  rw [markIntS_eq r a h0 h1 (by omega) k hk]; rfl
theorem szIntS_eq (l : List Int) (a : Int) (h0 : 0 ≤ a) (h1 : a ≤ 1048576) (hl : l.length ≤ maxLen) : laws_szIntS.f l a = some (if a - (l.length : Int) < 0 then -1 else a - (l.length : Int)) := by
  unfold maxLen at hl
  unfold laws_szIntS.f
  rw [wrap_small (by omega) (by omega)]
  by_cases h : a - (l.length : Int) < 0
  · rw [if_pos h, if_pos h]
  · rw [if_neg h, if_neg h]
theorem szIntS_ex (l : List Int) (a : Int) (h0 : 0 ≤ a) (h1 : a ≤ 1048576) (hl : l.length ≤ maxLen) : ∃ r, laws_szIntS.f l a = some r ∧ -1 ≤ r ∧ (0 ≤ r → r ≤ a ∧ l.length ≤ 1048576) := by
  refine ⟨_, szIntS_eq l a h0 h1 hl, ?_, ?_⟩
  · by_cases h : a - (l.length : Int) < 0
    · rw [if_pos h]; omega
    · rw [if_neg h]; omega
  · by_cases h : a - (l.length : Int) < 0
    · rw [if_pos h]; omega
    · rw [if_neg h]; omega
theorem szHart_ex (regs : List Int) (p s : Int) (a : Int) (h0 : 0 ≤ a) (h1 : a ≤ 1048576) (hl : regs.length ≤ maxLen) : ∃ r, laws_szHart.f regs p s a = some r ∧ -1 ≤ r ∧ (0 ≤ r → r ≤ a ∧ regs.length ≤ 1048576) := by
  unfold laws_szHart.f
  obtain ⟨r, h, h2, h3⟩ := szIntS_ex regs a h0 h1 hl
  rw [h, Option.bind_some]
  by_cases hr : r < 0
  · exact ⟨-1, by rw [if_pos hr], by omega, by omega⟩
  · exact ⟨r, by rw [if_neg hr], h2, h3⟩
theorem toHart_eq (r : List Int) (p s : Int) (hl : r.length ≤ 1048576) (k : Nat) (hk : r.length < k) : laws_toHart.f k r p s = some (r, p, s) := by
  unfold laws_toHart.f
  rw [toIntS_eq r hl k hk]; rfl
theorem FnExactHartBytes : laws_FnExactHartBytes.Pure := by
  rintro r p s ⟨⟨hm, _⟩, _⟩
  obtain ⟨K, hK⟩ : ∃ K : Nat, 4000000 ≤ K := ⟨_, Nat.le_refl _⟩
  refine ⟨K + 2, ?_⟩
  unfold laws_FnExactHartBytes.f
  obtain ⟨q, e, _, hr⟩ := szHart_ex r p s 1048576 (by omega) (by omega) hm
  rw [e, Option.bind_some]
  by_cases h : q < 0
  · rw [if_pos h]
  have hl := (hr (by omega)).2
  have hb := hartBytesV_length r p s
  have e1 : ∀ j, laws_toHart.f (K + j) r p s = some (r, p, s) := fun j => toHart_eq r p s hl _ (by omega)
  have e2 : ∀ j, spec_HartBytes.f (K + j) r p s = some (hartBytesV r p s) := fun j => specHartBytes_eq r p s hl _ (by omega)
  have e3 : ∀ j, impl_HartBytes.f (K + j) r p s = some (hartBytesV r p s) := fun j => implHartBytes_eq r p s hl _ (by omega)
  have e4 : ∀ j, laws_eqByteS.f (K + j) (hartBytesV r p s) (hartBytesV r p s) = some true := fun j => by rw [eqByteS_eq _ _ (by omega) _ (by omega), decide_eq_true rfl]
  have e5 : ∀ j, laws_eqHart.f (K + j) r p s r p s = some true := fun j => eqHart_same r p s hl _ (by omega)
  have e6 : ∀ j, laws_markHart.f (K + j) r p s 1 = some (1 + (r.length : Int), iota 1 r.length) := fun j => markHart_eq r p s 1 (by omega) (by omega) hl _ (by omega)
  have e7 : ∀ j, laws_markByteS.f (K + j) (hartBytesV r p s) 1 = some (1 + ((hartBytesV r p s).length : Int), iota8 1 (hartBytesV r p s).length) := fun j => markByteS_eq _ 1 (by omega) (by omega) (by omega) _ (by omega)
  have e8 : ∀ j, laws_heldByteS.f (K + j) (iota8 1 (hartBytesV r p s).length) 1 = some (1 + ((hartBytesV r p s).length : Int)) := fun j => heldByteS_eq 1 _ (by omega) (by omega) (by omega) _ (by omega)
  have n1 : ¬ (1 + (r.length : Int) < 0) := by omega
  have n2 : ¬ (1 + ((hartBytesV r p s).length : Int) < 0) := by omega
  have j0 : laws_FnExactHartBytes.j0 (K + 2) (hartBytesV r p s) (hartBytesV r p s) false r p s = some true := by
    rw [show K + 2 = (K + 1) + 1 from rfl, laws_FnExactHartBytes.j0]
    simp only [e1, e3, e4, e7, e8, Option.bind_some, if_true, if_neg n2, Bool.false_eq_true, if_false]
  simp only [e1, e2, e3, e4, e5, e6, Option.bind_some, if_neg h, if_true, if_neg n1, Bool.not_true, j0]
end Go.Proofs.Ytfkfdhnhakkihaa.Pure
