/- For all numbers, the program's LoseCode returns what the reference's LoseCode returns, in memory of its own: no conditions. -/
import Derived.Test.YtfkfdhnhakkihaaPFnExactLoseCodex4
namespace Go.Proofs.Ytfkfdhnhakkihaa.Pure
open Go.RowKit Go.Proofs.Ytfkfdhnhakkihaa.PFnExactLoseCode Go.Proofs.YtfkfdhnhakkihaaW.PrintWords Go.Proofs.YtfkfdhnhakkihaaW.PrintLast
set_option linter.unusedVariables false
set_option linter.unusedSimpArgs false

theorem wrap_small {x : Int} (h0 : -9223372036854775808 ≤ x) (h : x ≤ 9223372036854775807) : wrap64 x = x := by
  unfold wrap64; omega
theorem wrap_succ {i : Nat} (h : i < 4611686018427387904) : wrap64 ((i : Int) + 1) = ((i + 1 : Nat) : Int) := by
  unfold wrap64; omega
theorem rd_nat (l : List Int) (i : Nat) (h : i < l.length) : rd l (i : Int) = l[i] := by
  unfold rd; simp [List.getD, h]
theorem rd_mem (l : List Int) (i : Nat) (h : i < l.length) : rd l (i : Int) ∈ l := by
  rw [rd_nat l i h]; exact List.getElem_mem h
/-- A loop whose state is known ahead of each round. -/
theorem for_st {σ ρ : Type} (n : Nat) (L : Nat → Nat → σ → Option ρ) (st : Nat → σ) (r : ρ) (hs : ∀ k i, i < n → L (k + 1) i (st i) = L k (i + 1) (st (i + 1))) (he : ∀ k, L (k + 1) n (st n) = some r) :
    ∀ (k i : Nat), i ≤ n → n < i + k → L k i (st i) = some r
  | 0, i, hi, hk => by omega
  | k + 1, i, hi, hk => by
    by_cases h : i < n
    · rw [hs k i h]; exact for_st n L st r hs he k (i + 1) (by omega) (by omega)
    · have : i = n := by omega
      subst this; exact he k
/-- A loop that ends at the first place where p holds. -/
theorem for_find {ρ : Type} (n : Nat) (L : Nat → Nat → Option ρ) (p : Nat → Prop) (b : Nat → ρ) (r : ρ) (hs : ∀ k i, i < n → ¬ p i → L (k + 1) i = L k (i + 1)) (hb : ∀ k i, i < n → p i → L (k + 1) i = some (b i)) (he : ∀ k, L (k + 1) n = some r) :
    ∀ (k i : Nat), i ≤ n → n < i + k → (∃ j, i ≤ j ∧ j < n ∧ p j ∧ (∀ m, i ≤ m → m < j → ¬ p m) ∧ L k i = some (b j)) ∨ (∀ j, i ≤ j → j < n → ¬ p j) ∧ L k i = some r
  | 0, i, hi, hk => by omega
  | k + 1, i, hi, hk => by
    by_cases h : i < n
    · by_cases hp : p i
      · exact .inl ⟨i, Nat.le_refl _, h, hp, fun m h1 h2 => by omega, hb k i h hp⟩
      · rw [hs k i h hp]
        rcases for_find n L p b r hs hb he k (i + 1) (by omega) (by omega) with ⟨j, h1, h2, h3, h4, h5⟩ | ⟨h1, h2⟩
        · refine .inl ⟨j, by omega, h2, h3, fun m hm1 hm2 => ?_, h5⟩
          by_cases e : m = i
          · subst e; exact hp
          · exact h4 m (by omega) hm2
        · refine .inr ⟨fun j hj1 hj2 => ?_, h2⟩
          by_cases e : j = i
          · subst e; exact hp
          · exact h1 j (by omega) hj2
    · have : i = n := by omega
      subst this; exact .inr ⟨fun j h1 h2 => by omega, he k⟩
/-- The same for a Bool: do all places pass? -/
theorem for_all {n : Nat} {L : Nat → Nat → Option Bool} (p : Nat → Prop) (hs : ∀ k i, i < n → p i → L (k + 1) i = L k (i + 1)) (hb : ∀ k i, i < n → ¬ p i → L (k + 1) i = some false) (c : Bool) (he : ∀ k, L (k + 1) n = some c) {q : Bool}
    (hq : q = true ↔ (∀ j, j < n → p j) ∧ c = true) (k : Nat) (hk : n < k) : L k 0 = some q := by
  rcases for_find n L (fun i => ¬ p i) (fun _ => false) c (fun k i h hp => hs k i h (Classical.not_not.1 hp)) (fun k i h hp => hb k i h hp) he k 0 (Nat.zero_le _) (by omega) with ⟨j, _, h2, h3, _, h5⟩ | ⟨h1, h2⟩
  · rw [h5]; congr 1; symm
    rw [Bool.eq_false_iff]; intro hh; exact h3 ((hq.1 hh).1 j h2)
  · rw [h2]; congr 1
    have : ∀ j, j < n → p j := fun j hj => Classical.not_not.1 (h1 j (Nat.zero_le _) hj)
    rw [Bool.eq_iff_iff, hq]; exact ⟨fun h => ⟨this, h⟩, fun h => h.2⟩
/-- What is written, place by place. -/
theorem set_step {α : Type} (a b : List α) (i : Nat) (hi : i < a.length) (hb : b.length = a.length) : (a.take i ++ b.drop i).set i (a[i]'hi) = a.take (i + 1) ++ b.drop (i + 1) := by
  rw [List.set_append_right _ _ (by simp; omega), List.length_take, Nat.min_eq_left (by omega), Nat.sub_self, List.take_succ_eq_append_getElem hi, List.append_assoc]
  congr 1
  rw [List.drop_eq_getElem_cons (by omega)]
  rfl
theorem snoc_step {α : Type} (a : List α) (i : Nat) (hi : i < a.length) : a.take i ++ [a[i]'hi] = a.take (i + 1) := by
  rw [List.take_succ_eq_append_getElem hi]
theorem eq_iff_all (a b : List Int) (h : a.length = b.length) : a = b ↔ ∀ j, j < a.length → rd a (j : Int) = rd b (j : Int) := by
  constructor
  · rintro rfl j _; rfl
  · intro hh; refine List.ext_getElem h (fun j h1 h2 => ?_)
    have := hh j h1
    rwa [rd_nat a j h1, rd_nat b j h2] at this
/-- What marks hold: s, s + 1, .. -/
def iota (s : Int) (n : Nat) : List Int := (List.range n).map fun (i : Nat) => s + (i : Int)
theorem iota_length (s : Int) (n : Nat) : (iota s n).length = n := by simp [iota]
theorem iota_get (s : Int) (n i : Nat) (h : i < n) : (iota s n)[i]'(by rw [iota_length]; exact h) = s + i := by simp [iota]
/-- The same as bytes. -/
def iota8 (s : Int) (n : Nat) : List Int := (List.range n).map fun (i : Nat) => (s + (i : Int)) % 256
theorem iota8_length (s : Int) (n : Nat) : (iota8 s n).length = n := by simp [iota8]
theorem iota8_get (s : Int) (n i : Nat) (h : i < n) : (iota8 s n)[i]'(by rw [iota8_length]; exact h) = (s + i) % 256 := by simp [iota8]
theorem eqIntS_eq (a b : List Int) (hl : a.length ≤ 1048576) (k : Nat) (hk : a.length < k) : laws_eqIntS.f k a b = some (decide (a = b)) := by
  unfold laws_eqIntS.f
  by_cases h : a.length = b.length
  · rw [if_pos (by omega)]
    refine for_all (L := fun k i => laws_eqIntS.l0 k a b (i : Int)) (n := a.length) (fun j => rd a (j : Int) = rd b (j : Int)) ?_ ?_ true ?_ ?_ k hk
    · intro k i hi hp
      simp only [laws_eqIntS.l0]
      rw [if_pos (by omega), if_pos (by omega), if_pos (by omega), if_pos hp, wrap_succ (by omega)]
    · intro k i hi hp
      simp only [laws_eqIntS.l0]
      rw [if_pos (by omega), if_pos (by omega), if_pos (by omega), if_neg hp]
    · intro k
      simp only [laws_eqIntS.l0]
      rw [if_neg (by omega)]
    · rw [decide_eq_true_iff, eq_iff_all a b h]; simp
  · rw [if_neg (by omega)]
    have : a ≠ b := fun hh => h (by rw [hh])
    simp [this]
theorem markIntS_eq (l : List Int) (s : Int) (h0 : 0 ≤ s) (h1 : s ≤ 4294967296) (hl : l.length ≤ 2097152) (k : Nat) (hk : l.length < k) : laws_markIntS.f k l s = some (s + l.length, iota s l.length) := by
  unfold laws_markIntS.f
  have h := for_st l.length (fun k i (t : List Int × Int) => laws_markIntS.l0 k t.1 t.2 (i : Int)) (fun i => ((iota s l.length).take i ++ l.drop i, s + (i : Int))) (s + l.length, iota s l.length) ?_ ?_ k 0 (Nat.zero_le _) (by omega)
  · simpa using h
  · intro k i hi
    simp only [laws_markIntS.l0]
    rw [if_pos (by simp [iota_length]; omega), if_pos (by omega), wrap_succ (by omega), wrap_small (by omega) (by omega)]
    simp only [Int.toNat_natCast]
    rw [← iota_get s l.length i hi, set_step _ _ _ (by rw [iota_length]; exact hi) (by rw [iota_length])]
    congr 1
    rw [iota_get s l.length i hi]; omega
  · intro k
    simp only [laws_markIntS.l0]
    rw [if_neg (by simp [iota_length])]
    simp [List.take_of_length_le, iota_length]
theorem heldIntS_eq (s : Int) (n : Nat) (h0 : 0 ≤ s) (h1 : s ≤ 4294967296) (hl : n ≤ 2097152) (k : Nat) (hk : n < k) : laws_heldIntS.f k (iota s n) s = some (s + n) := by
  unfold laws_heldIntS.f
  have h := for_st n (fun k i (t : Int) => laws_heldIntS.l0 k (iota s n) t (i : Int)) (fun i => s + (i : Int)) (s + n) ?_ ?_ k 0 (Nat.zero_le _) (by omega)
  · simpa using h
  · intro k i hi
    simp only [laws_heldIntS.l0]
    rw [if_pos (by simp [iota_length]; omega), if_pos (by omega), rd_nat _ _ (by rw [iota_length]; exact hi), if_pos (iota_get s n i hi), wrap_succ (by omega), wrap_small (by omega) (by omega)]
    congr 1; omega
  · intro k
    simp only [laws_heldIntS.l0]
    rw [if_neg (by simp [iota_length])]
theorem l1In_eq (x lo hi : Int) : spec_l1In.f x lo hi = some (decide (lo ≤ x ∧ x ≤ hi)) := by
  unfold spec_l1In.f
  by_cases h : x ≥ lo
  · rw [if_pos h]; have h' : lo ≤ x := h; simp [h']
  · rw [if_neg h]; have h' : ¬ lo ≤ x := h; simp [h']
theorem from_eq (x lo hi : Int) : impl_from.f x lo hi = some (decide (lo ≤ x ∧ x ≤ hi)) := by
  unfold impl_from.f
  by_cases h : x ≥ lo
  · rw [if_pos h]; have h' : lo ≤ x := h; simp [h']
  · rw [if_neg h]; have h' : ¬ lo ≤ x := h; simp [h']
theorem isCell_eq (x : Int) : impl_isCell.f x = some (decide (0 ≤ x ∧ x ≤ 23)) := by
  unfold impl_isCell.f; rw [from_eq]; rfl
theorem ite_some (b c : Bool) : (if b = true then some c else some false) = some (b && c) := by cases b <;> rfl
theorem l8Field_eq (x m : Int) (h : Bool) : spec_l8Field.f x m h = some (decide (0 ≤ x ∧ x ≤ m) && (h || decide (x = 0))) := by
  unfold spec_l8Field.f
  rw [l1In_eq, Option.bind_some]
  have e : (x == 0) = decide (x = 0) := rfl
  rw [e]
  cases h <;> simp only [if_true, Bool.false_eq_true, if_false, Bool.true_or, Bool.false_or, ite_some]
theorem specInsOk_eq (o r a b n : Int) : spec_InsOk.f o r a b n = some (insOkB o r a b n) := by
  unfold spec_InsOk.f spec_l8Has.f
  simp only [l1In_eq, l8Field_eq, Option.bind_some, ite_some]
  by_cases ho : 1 ≤ o ∧ o ≤ 10
  · have hc : o = 1 ∨ o = 2 ∨ o = 3 ∨ o = 4 ∨ o = 5 ∨ o = 6 ∨ o = 7 ∨ o = 8 ∨ o = 9 ∨ o = 10 := by omega
    rw [decide_eq_true ho]
    rcases hc with rfl | rfl | rfl | rfl | rfl | rfl | rfl | rfl | rfl | rfl <;>
      (simp only [if_true, Option.bind_some, List.length_cons, List.length_nil]
       rw [if_pos (by omega), if_pos (by omega)]
       simp only [rd, Option.bind_some, Bool.true_and]
       congr 1
       rw [Bool.eq_iff_iff]
       simp [insOkB, show Go.bits .and .i64 0 1 = 0 by decide, show Go.bits .and .i64 0 2 = 0 by decide, show Go.bits .and .i64 0 4 = 0 by decide, show Go.bits .and .i64 0 8 = 0 by decide,
        show Go.bits .and .i64 7 1 = 1 by decide, show Go.bits .and .i64 7 2 = 2 by decide, show Go.bits .and .i64 7 4 = 4 by decide, show Go.bits .and .i64 7 8 = 0 by decide,
        show Go.bits .and .i64 8 1 = 0 by decide, show Go.bits .and .i64 8 2 = 0 by decide, show Go.bits .and .i64 8 4 = 0 by decide, show Go.bits .and .i64 8 8 = 8 by decide,
        show Go.bits .and .i64 9 1 = 1 by decide, show Go.bits .and .i64 9 2 = 0 by decide, show Go.bits .and .i64 9 4 = 0 by decide, show Go.bits .and .i64 9 8 = 8 by decide,
        show Go.bits .and .i64 10 1 = 0 by decide, show Go.bits .and .i64 10 2 = 2 by decide, show Go.bits .and .i64 10 4 = 0 by decide, show Go.bits .and .i64 10 8 = 8 by decide,
        show Go.bits .and .i64 11 1 = 1 by decide, show Go.bits .and .i64 11 2 = 2 by decide, show Go.bits .and .i64 11 4 = 0 by decide, show Go.bits .and .i64 11 8 = 8 by decide,
        show Go.bits .and .i64 14 1 = 0 by decide, show Go.bits .and .i64 14 2 = 2 by decide, show Go.bits .and .i64 14 4 = 4 by decide, show Go.bits .and .i64 14 8 = 8 by decide,
        show Go.bits .and .i64 15 1 = 1 by decide, show Go.bits .and .i64 15 2 = 2 by decide, show Go.bits .and .i64 15 4 = 4 by decide, show Go.bits .and .i64 15 8 = 8 by decide]
       try omega)
  · have hn : ∀ c, 1 ≤ c → c ≤ 10 → o ≠ c := fun c h1 h2 e => ho (by omega)
    simp [ho, insOkB, hn]
/-- The word of an Ins. -/
def codeW (o r a b n : Int) : Int := if insOkB o r a b n = true then o + 16 * r + 64 * a + 256 * b + 1024 * n else 0
theorem insOkB_bounds {o r a b n : Int} (h : insOkB o r a b n = true) : 1 ≤ o ∧ o ≤ 10 ∧ 0 ≤ r ∧ r ≤ 3 ∧ 0 ≤ a ∧ a ≤ 3 ∧ 0 ≤ b ∧ b ≤ 3 ∧ 0 ≤ n ∧ n ≤ 63 := by
  unfold insOkB at h
  simp only [Bool.and_eq_true, decide_eq_true_eq] at h
  obtain ⟨h0, ⟨h1, h1'⟩, ⟨h2, h2'⟩, ⟨h3, h3'⟩, ⟨h4, h4'⟩⟩ := h
  refine ⟨?_, ?_, h1, h1', h2, h2', h3, h3', h4, h4'⟩
  · by_cases c : 1 ≤ o
    · exact c
    · exfalso
      rw [if_neg (by omega), if_neg (by omega), if_neg (by omega), if_neg (by omega), if_neg (by omega), if_neg (by omega), if_neg (by omega), if_neg (by omega), if_neg (by omega), if_neg (by omega)] at h0
      cases h0
  · by_cases c : o ≤ 10
    · exact c
    · exfalso
      rw [if_neg (by omega), if_neg (by omega), if_neg (by omega), if_neg (by omega), if_neg (by omega), if_neg (by omega), if_neg (by omega), if_neg (by omega), if_neg (by omega), if_neg (by omega)] at h0
      cases h0
theorem implCode_eq (o r a b n : Int) : impl_Code.f o r a b n = some (codeW o r a b n, insOkB o r a b n) := by
  unfold impl_Code.f impl_InsOk.f codeW
  rw [Option.bind_some]
  by_cases h : insOkB o r a b n = true
  · have hb := insOkB_bounds h
    rw [if_pos h, if_pos h, h]
    congr 2
    simp only [wrap_small (x := 16 * r) (by omega) (by omega), wrap_small (x := 64 * a) (by omega) (by omega), wrap_small (x := 256 * b) (by omega) (by omega), wrap_small (x := 1024 * n) (by omega) (by omega), wrap_small (x := o + 16 * r) (by omega) (by omega), wrap_small (x := o + 16 * r + 64 * a) (by omega) (by omega), wrap_small (x := o + 16 * r + 64 * a + 256 * b) (by omega) (by omega), wrap_small (x := o + 16 * r + 64 * a + 256 * b + 1024 * n) (by omega) (by omega)]
  · have h' : insOkB o r a b n = false := by simpa using h
    rw [if_neg h, if_neg h, h']
theorem specCode_eq (o r a b n : Int) : spec_Code.f o r a b n = some (codeW o r a b n, insOkB o r a b n) := by
  rw [← implCode_eq]; unfold spec_Code.f impl_Code.f
  rw [specInsOk_eq]; rfl
theorem rdIns (l : List S100) (i : Nat) (h : i < l.length) : rd_T100 l (i : Int) = l[i] := by
  unfold rd_T100; simp [List.getD, h]
def insW (x : S100) : Int := codeW x.f0 x.f1 x.f2 x.f3 x.f4
theorem l25Codes_eq (l : List S100) (hl : l.length ≤ 2097152) (k : Nat) (hk : l.length < k) : spec_l25Codes.f k l = some (l.map insW) := by
  unfold spec_l25Codes.f
  have h := for_st l.length (fun k i (s : List Int) => spec_l25Codes.l0 k l s (i : Int)) (fun i => (l.take i).map insW) (l.map insW) ?_ ?_ k 0 (Nat.zero_le _) (by omega)
  · simpa using h
  · intro k i hi
    simp only [spec_l25Codes.l0]
    rw [if_pos (by omega), if_pos (by omega), specCode_eq, Option.bind_some, if_pos (by simp; omega), wrap_succ (by omega), rdIns l i hi]
    rw [← snoc_step l i hi, List.map_append]; rfl
  · intro k
    simp only [spec_l25Codes.l0]
    rw [if_neg (by omega)]; simp
theorem coded_l (l : List S100) (hl : l.length ≤ 2097152) (k : Nat) (hk : l.length < k) : impl_coded.l0 k [] l (l.length : Int) 0 = some (l.map insW, true) := by
  have h := for_st l.length (fun k i (s : List Int) => impl_coded.l0 k s l (l.length : Int) (i : Int)) (fun i => (l.take i).map insW) (l.map insW, true) ?_ ?_ k 0 (Nat.zero_le _) (by omega)
  · simpa using h
  · intro k i hi
    simp only [impl_coded.l0]
    rw [if_pos (by omega), if_pos (by omega), if_pos (by omega), implCode_eq, Option.bind_some, if_pos (by simp; omega), wrap_succ (by omega), rdIns l i hi]
    rw [← snoc_step l i hi, List.map_append]; rfl
  · intro k
    simp only [impl_coded.l0]
    rw [if_neg (by omega)]; simp
/-- May so many words that count a cell lie from an address on? -/
def codedB (cell times at_ : Int) (n : Nat) : Bool := decide (0 ≤ cell ∧ cell ≤ 23) && (decide (1 ≤ times ∧ times ≤ 63) && (decide (0 ≤ at_ ∧ at_ ≤ 24 - (n : Int)) && !decide (at_ ≤ cell ∧ cell ≤ at_ + (n : Int) - 1)))
theorem coded_eq (cell times at_ : Int) (l : List S100) (hl : l.length ≤ 1000) (k : Nat) (hk : l.length + 1 < k) :
    impl_coded.f k cell times at_ l = some (if codedB cell times at_ l.length = true then l.map insW else [], codedB cell times at_ l.length) := by
  obtain ⟨k, rfl⟩ : ∃ m, k = m + 1 := ⟨k - 1, by omega⟩
  unfold impl_coded.f codedB
  simp only [isCell_eq, from_eq, Option.bind_some, impl_coded.j0]
  rw [wrap_small (x := 24 - (l.length : Int)) (by omega) (by omega)]
  by_cases h1 : 0 ≤ cell ∧ cell ≤ 23
  · rw [decide_eq_true h1, if_pos rfl]
    by_cases h2 : 1 ≤ times ∧ times ≤ 63
    · rw [decide_eq_true h2, if_pos rfl]
      by_cases h3 : 0 ≤ at_ ∧ at_ ≤ 24 - (l.length : Int)
      · rw [decide_eq_true h3, if_pos rfl, wrap_small (x := at_ + (l.length : Int)) (by omega) (by omega), wrap_small (x := at_ + (l.length : Int) - 1) (by omega) (by omega)]
        by_cases h4 : at_ ≤ cell ∧ cell ≤ at_ + (l.length : Int) - 1
        · rw [decide_eq_true h4, if_pos rfl]; rfl
        · rw [decide_eq_false h4, if_neg (by simp), coded_l l (by omega) k (by omega)]; rfl
      · rw [decide_eq_false h3]; rfl
    · rw [decide_eq_false h2]; rfl
  · rw [decide_eq_false h1]; rfl
theorem l25Ok_eq (cell times at_ : Int) (n : Nat) (hn : n ≤ 1000) : spec_l25Ok.f cell times at_ (n : Int) = some (codedB cell times at_ n) := by
  unfold spec_l25Ok.f codedB
  simp only [l1In_eq, Option.bind_some]
  rw [wrap_small (x := 24 - (n : Int)) (by omega) (by omega)]
  by_cases h1 : 0 ≤ cell ∧ cell ≤ 23
  · rw [decide_eq_true h1, if_pos rfl]
    by_cases h2 : 1 ≤ times ∧ times ≤ 63
    · rw [decide_eq_true h2, if_pos rfl]
      by_cases h3 : 0 ≤ at_ ∧ at_ ≤ 24 - (n : Int)
      · rw [decide_eq_true h3, if_pos rfl, wrap_small (x := at_ + (n : Int)) (by omega) (by omega), wrap_small (x := at_ + (n : Int) - 1) (by omega) (by omega)]; rfl
      · rw [decide_eq_false h3]; rfl
    · rw [decide_eq_false h2]; rfl
  · rw [decide_eq_false h1]; rfl
def loseCodeIns (a0 a1 a2 : Int) : List S100 := [(⟨1, 0, 0, 0, a1⟩ : S100), (⟨1, 1, 0, 0, 1⟩ : S100), (⟨4, 2, 3, 0, a0⟩ : S100), (⟨2, 2, 2, 1, 0⟩ : S100), (⟨5, 0, 3, 2, a0⟩ : S100), (⟨10, 0, 0, 1, 0⟩ : S100), (⟨7, 0, 0, 0, wrap64 (a2 + 8)⟩ : S100), (⟨8, 0, 0, 0, wrap64 (a2 + 2)⟩ : S100), (⟨9, 0, 0, 0, 0⟩ : S100)]
def loseCodeW (a0 a1 a2 : Int) : List Int := if codedB a0 a1 a2 9 = true then (loseCodeIns a0 a1 a2).map insW else []
theorem loseCodeW_length (a0 a1 a2 : Int) : (loseCodeW a0 a1 a2).length ≤ 9 := by
  unfold loseCodeW; by_cases h : codedB a0 a1 a2 9 = true
  · rw [if_pos h]; simp [loseCodeIns]
  · rw [if_neg h]; simp
theorem implLoseCode_eq (a0 a1 a2 : Int) (k : Nat) (hk : 20 < k) : impl_LoseCode.f k a0 a1 a2 = some (loseCodeW a0 a1 a2, codedB a0 a1 a2 9) := by
  have h := coded_eq a0 a1 a2 (loseCodeIns a0 a1 a2) (by simp [loseCodeIns]) k (by simp [loseCodeIns]; omega)
  unfold impl_LoseCode.f
  have h' : impl_coded.f k a0 a1 a2 [(⟨1, 0, 0, 0, a1⟩ : S100), (⟨1, 1, 0, 0, 1⟩ : S100), (⟨4, 2, 3, 0, a0⟩ : S100), (⟨2, 2, 2, 1, 0⟩ : S100), (⟨5, 0, 3, 2, a0⟩ : S100), (⟨10, 0, 0, 1, 0⟩ : S100), (⟨7, 0, 0, 0, wrap64 (a2 + 8)⟩ : S100), (⟨8, 0, 0, 0, wrap64 (a2 + 2)⟩ : S100), (⟨9, 0, 0, 0, 0⟩ : S100)] = some (loseCodeW a0 a1 a2, codedB a0 a1 a2 9) := h
  rw [h']; rfl
theorem specLoseCode_eq (a0 a1 a2 : Int) (k : Nat) (hk : 20 < k) : spec_LoseCode.f k a0 a1 a2 = some (loseCodeW a0 a1 a2, codedB a0 a1 a2 9) := by
  unfold spec_LoseCode.f loseCodeW
  have e := l25Ok_eq a0 a1 a2 9 (by omega)
  rw [show ((9 : Nat) : Int) = 9 from rfl] at e
  rw [e, Option.bind_some]
  by_cases h : codedB a0 a1 a2 9 = true
  · have h2 : spec_l25Codes.f k [(⟨1, 0, 0, 0, a1⟩ : S100), (⟨1, 1, 0, 0, 1⟩ : S100), (⟨4, 2, 3, 0, a0⟩ : S100), (⟨2, 2, 2, 1, 0⟩ : S100), (⟨5, 0, 3, 2, a0⟩ : S100), (⟨10, 0, 0, 1, 0⟩ : S100), (⟨7, 0, 0, 0, wrap64 (a2 + 8)⟩ : S100), (⟨8, 0, 0, 0, wrap64 (a2 + 2)⟩ : S100), (⟨9, 0, 0, 0, 0⟩ : S100)] = some ((loseCodeIns a0 a1 a2).map insW) := l25Codes_eq (loseCodeIns a0 a1 a2) (by simp [loseCodeIns]) k (by simp [loseCodeIns]; omega)
    rw [if_pos h, if_pos h, h2, h]; rfl
  · have h' : codedB a0 a1 a2 9 = false := by simpa using h
    rw [if_neg h, if_neg h, h']
theorem FnExactLoseCode : laws_FnExactLoseCode.Pure := by
  intro a0 a1 a2 _ _ _
  obtain ⟨K, hK⟩ : ∃ K : Nat, 3000 ≤ K := ⟨_, Nat.le_refl _⟩
  refine ⟨K + 4, ?_⟩
  have hw := loseCodeW_length a0 a1 a2
  have e0 : ∀ j, impl_LoseCode.f (K + j) a0 a1 a2 = some (loseCodeW a0 a1 a2, codedB a0 a1 a2 9) := fun j => implLoseCode_eq a0 a1 a2 _ (by omega)
  have e0' : ∀ j, spec_LoseCode.f (K + j) a0 a1 a2 = some (loseCodeW a0 a1 a2, codedB a0 a1 a2 9) := fun j => specLoseCode_eq a0 a1 a2 _ (by omega)
  generalize loseCodeW a0 a1 a2 = ws at *
  have e3 : ∀ j, laws_eqIntS.f (K + j) ws ws = some true := fun j => by rw [eqIntS_eq ws ws (by omega) _ (by omega), decide_eq_true rfl]
  have e5 : ∀ j, laws_markIntS.f (K + j) ws 1 = some (1 + (ws.length : Int), iota 1 ws.length) := fun j => markIntS_eq ws 1 (by omega) (by omega) (by omega) _ (by omega)
  have e6 : ∀ j, laws_heldIntS.f (K + j) (iota 1 ws.length) 1 = some (1 + (ws.length : Int)) := fun j => heldIntS_eq 1 ws.length (by omega) (by omega) (by omega) _ (by omega)
  have n2 : ¬ (1 + (ws.length : Int)) < 0 := by omega
  unfold laws_FnExactLoseCode.f
  simp only [laws_FnExactLoseCode.j0, laws_FnExactLoseCode.j1, e0, e0', e3, e5, e6, Option.bind_some, if_true, bne_self_eq_false, Bool.false_eq_true, if_false, n2]
end Go.Proofs.Ytfkfdhnhakkihaa.Pure
