/- For all bytes: linked, each name of drawn parts leads to its part, and all else is as it was, by the program as by the reference: no conditions. -/
import Derived.Test.YtaakcbgpmabaaaaPFnLinkedx14
namespace Go.Proofs.Ytaakcbgpmabaaaa.Pure
open Go.RowKit Go.Proofs.Ytaakcbgpmabaaaa.PFnLinked Go.Proofs.YtaakcbgpmabaaaaW.PrintWords Go.Proofs.YtaakcbgpmabaaaaW.PrintLast
set_option linter.unusedVariables false
set_option linter.unusedSimpArgs false

theorem wrap_small {x : Int} (h0 : -9223372036854775808 ≤ x) (h : x ≤ 9223372036854775807) : wrap64 x = x := by
 unfold wrap64; omega
theorem wrap_succ {i : Nat} (h : i < 4611686018427387904) : wrap64 ((i : Int) + 1) = ((i + 1 : Nat) : Int) := by
 unfold wrap64; omega
theorem rd_nat (l : List Int) (i : Nat) (h : i < l.length) : rd l (i : Int) = l[i] := by
 unfold rd; simp [List.getD, h]
theorem rd_mem (l : List Int) (i : Nat) (h : i < l.length) : rd l (i : Int) ∈ l := by
 rw [rd_nat l i h]; exact List.getElem_mem h
theorem for_st {σ ρ : Type} (n : Nat) (L : Nat → Nat → σ → Option ρ) (st : Nat → σ) (r : ρ) (hs : ∀ k i, i < n → L (k + 1) i (st i) = L k (i + 1) (st (i + 1))) (he : ∀ k, L (k + 1) n (st n) = some r) :
  ∀ (k i : Nat), i ≤ n → n < i + k → L k i (st i) = some r
 | 0, i, hi, hk => by omega
 | k + 1, i, hi, hk => by
  by_cases h : i < n
  ·rw [hs k i h]; exact for_st n L st r hs he k (i + 1) (by omega) (by omega)
  ·have : i = n := by omega
   subst this; exact he k
theorem for_find {ρ : Type} (n : Nat) (L : Nat → Nat → Option ρ) (p : Nat → Prop) (b : Nat → ρ) (r : ρ) (hs : ∀ k i, i < n → ¬ p i → L (k + 1) i = L k (i + 1)) (hb : ∀ k i, i < n → p i → L (k + 1) i = some (b i)) (he : ∀ k, L (k + 1) n = some r) :
  ∀ (k i : Nat), i ≤ n → n < i + k → (∃ j, i ≤ j ∧ j < n ∧ p j ∧ (∀ m, i ≤ m → m < j → ¬ p m) ∧ L k i = some (b j)) ∨ (∀ j, i ≤ j → j < n → ¬ p j) ∧ L k i = some r
 | 0, i, hi, hk => by omega
 | k + 1, i, hi, hk => by
  by_cases h : i < n
  ·by_cases hp : p i
   ·exact .inl ⟨i, Nat.le_refl _, h, hp, fun m h1 h2 => by omega, hb k i h hp⟩
   ·rw [hs k i h hp]
    rcases for_find n L p b r hs hb he k (i + 1) (by omega) (by omega) with ⟨j, h1, h2, h3, h4, h5⟩ | ⟨h1, h2⟩
    ·refine .inl ⟨j, by omega, h2, h3, fun m hm1 hm2 => ?_, h5⟩
     by_cases e : m = i
     ·subst e; exact hp
     ·exact h4 m (by omega) hm2
    ·refine .inr ⟨fun j hj1 hj2 => ?_, h2⟩
     by_cases e : j = i
     ·subst e; exact hp
     ·exact h1 j (by omega) hj2
  ·have : i = n := by omega
   subst this; exact .inr ⟨fun j h1 h2 => by omega, he k⟩
theorem for_all {n : Nat} {L : Nat → Nat → Option Bool} (p : Nat → Prop) (hs : ∀ k i, i < n → p i → L (k + 1) i = L k (i + 1)) (hb : ∀ k i, i < n → ¬ p i → L (k + 1) i = some false) (c : Bool) (he : ∀ k, L (k + 1) n = some c) {q : Bool}
  (hq : q = true ↔ (∀ j, j < n → p j) ∧ c = true) (k : Nat) (hk : n < k) : L k 0 = some q := by
 rcases for_find n L (fun i => ¬ p i) (fun _ => false) c (fun k i h hp => hs k i h (Classical.not_not.1 hp)) (fun k i h hp => hb k i h hp) he k 0 (Nat.zero_le _) (by omega) with ⟨j, _, h2, h3, _, h5⟩ | ⟨h1, h2⟩
 ·rw [h5]; congr 1; symm
  rw [Bool.eq_false_iff]; intro hh; exact h3 ((hq.1 hh).1 j h2)
 ·rw [h2]; congr 1
  have : ∀ j, j < n → p j := fun j hj => Classical.not_not.1 (h1 j (Nat.zero_le _) hj)
  rw [Bool.eq_iff_iff, hq]; exact ⟨fun h => ⟨this, h⟩, fun h => h.2⟩
theorem wraps_i64 (n : Int) (h0 : 0 ≤ n) (h1 : n < 2 ^ 62) : IntKind.i64.wrap n = n := by rw [IntKind.wrap_i64]; omega
theorem idx_any {n : Nat} (L : Nat → Nat → Option Int) (q : Nat → Bool) (hs : ∀ k i, i < n → q i = false → L (k + 1) i = L k (i + 1)) (hb : ∀ k i, i < n → q i = true → L (k + 1) i = some (i : Int)) (he : ∀ k, L (k + 1) n = some (-1)) (r : Bool)
  (hr : r = true ↔ ∃ j, j < n ∧ q j = true) (k : Nat) (hk : n < k) : ∃ v, L k 0 = some v ∧ decide (v ≥ 0) = r := by
 rcases for_find n L (fun i => q i = true) (fun i => (i : Int)) (-1) (fun k i h hp => hs k i h (by simpa using hp)) hb he k 0 (Nat.zero_le _) (by omega) with ⟨j, _, h2, h3, _, h5⟩ | ⟨h1, h2⟩
 ·refine ⟨_, h5, ?_⟩
  rw [decide_eq_true (by omega : (j : Int) ≥ 0)]; exact (hr.2 ⟨j, h2, h3⟩).symm
 ·refine ⟨_, h2, ?_⟩
  rw [decide_eq_false (by omega : ¬ (-1 : Int) ≥ 0)]; symm; rw [Bool.eq_false_iff]; intro hh
  obtain ⟨j, hj, hq⟩ := hr.1 hh
  exact h1 j (Nat.zero_le _) hj hq
theorem same_loop {n C : Nat} (L : Nat → Nat → Option Bool) (hs : ∀ k i, i < n → C ≤ k → L (k + 1) i = L k (i + 1)) (he : ∀ k, L (k + 1) n = some true) (k : Nat) (hk : n + C < k) : L k 0 = some true := by
 have h := for_st n (fun k' i (_ : Unit) => L (k' + C) i) (fun _ => ()) true ?_ ?_ (k - C) 0 (Nat.zero_le _) (by omega)
 ·rw [show k - C + C = k by omega] at h; exact h
 ·intro k' i hi; rw [show k' + 1 + C = (k' + C) + 1 by omega, hs _ _ hi (by omega)]
 ·intro k'; rw [show k' + 1 + C = (k' + C) + 1 by omega, he]
theorem tmod_pos (n c : Int) (h : 0 ≤ n) : Int.tmod n c = n % c := Int.tmod_eq_emod_of_nonneg h
theorem tdiv_pos (n c : Int) (h : 0 ≤ n) : Int.tdiv n c = n / c := Int.tdiv_eq_ediv_of_nonneg h
theorem l1In_eq (x lo hi : Int) : spec_l1In.f x lo hi = some (decide (lo ≤ x ∧ x ≤ hi)) := by
 unfold spec_l1In.f
 by_cases h : x ≥ lo
 ·rw [if_pos h]; have h' : lo ≤ x := h; simp [h']
 ·rw [if_neg h]; have h' : ¬ lo ≤ x := h; simp [h']
theorem from_eq (x lo hi : Int) : impl_from.f x lo hi = some (decide (lo ≤ x ∧ x ≤ hi)) := by
 unfold impl_from.f
 by_cases h : x ≥ lo
 ·rw [if_pos h]; have h' : lo ≤ x := h; simp [h']
 ·rw [if_neg h]; have h' : ¬ lo ≤ x := h; simp [h']
theorem isWord_eq (x : Int) : impl_isWord.f x = some (decide (0 ≤ x ∧ x ≤ 65535)) := by
 unfold impl_isWord.f; rw [from_eq]; rfl
theorem insOkB_bounds {o r a b n : Int} (h : insOkB o r a b n = true) : 1 ≤ o ∧ o ≤ 10 ∧ 0 ≤ r ∧ r ≤ 3 ∧ 0 ≤ a ∧ a ≤ 3 ∧ 0 ≤ b ∧ b ≤ 3 ∧ 0 ≤ n ∧ n ≤ 63 := by
 unfold insOkB at h
 simp only [Bool.and_eq_true, decide_eq_true_eq] at h
 obtain ⟨h0, ⟨h1, h1'⟩, ⟨h2, h2'⟩, ⟨h3, h3'⟩, ⟨h4, h4'⟩⟩ := h
 refine ⟨?_, ?_, h1, h1', h2, h2', h3, h3', h4, h4'⟩
 ·by_cases c : 1 ≤ o
  ·exact c
  ·exfalso
   rw [if_neg (by omega), if_neg (by omega), if_neg (by omega), if_neg (by omega), if_neg (by omega), if_neg (by omega), if_neg (by omega), if_neg (by omega), if_neg (by omega), if_neg (by omega)] at h0
   cases h0
 ·by_cases c : o ≤ 10
  ·exact c
  ·exfalso
   rw [if_neg (by omega), if_neg (by omega), if_neg (by omega), if_neg (by omega), if_neg (by omega), if_neg (by omega), if_neg (by omega), if_neg (by omega), if_neg (by omega), if_neg (by omega)] at h0
   cases h0
theorem ite_some (b c : Bool) : (if b = true then some c else some false) = some (b && c) := by cases b <;> rfl
theorem l8Field_eq (x m : Int) (h : Bool) : spec_l8Field.f x m h = some (decide (0 ≤ x ∧ x ≤ m) && (h || decide (x = 0))) := by
 unfold spec_l8Field.f
 rw [l1In_eq, Option.bind_some]
 have e : (x == 0) = decide (x = 0) := rfl
 rw [e]
 cases h <;> simp only [if_true, Bool.false_eq_true, if_false, Bool.true_or, Bool.false_or, ite_some]
theorem specInsOk_eq (o r a b n : Int) : spec_InsOk.f o r a b n = some (insOkB o r a b n) := by
 unfold spec_InsOk.f spec_l8Has.f
 simp only [l1In_eq, l8Field_eq, Option.bind_some, ite_some]
 by_cases ho : 1 ≤ o ∧ o ≤ 10
 ·have hc : o = 1 ∨ o = 2 ∨ o = 3 ∨ o = 4 ∨ o = 5 ∨ o = 6 ∨ o = 7 ∨ o = 8 ∨ o = 9 ∨ o = 10 := by omega
  rw [decide_eq_true ho]
  rcases hc with rfl | rfl | rfl | rfl | rfl | rfl | rfl | rfl | rfl | rfl <;>
   (simp only [if_true, Option.bind_some, List.length_cons, List.length_nil]
    rw [if_pos (by omega), if_pos (by omega)]
    simp only [rd, Option.bind_some, Bool.true_and]
    congr 1
    rw [Bool.eq_iff_iff]
    simp [insOkB, show Go.bits .and .i64 0 1 = 0 by decide, show Go.bits .and .i64 0 2 = 0 by decide, show Go.bits .and .i64 0 4 = 0 by decide, show Go.bits .and .i64 0 8 = 0 by decide,
     show Go.bits .and .i64 7 1 = 1 by decide, show Go.bits .and .i64 7 2 = 2 by decide, show Go.bits .and .i64 7 4 = 4 by decide, show Go.bits .and .i64 7 8 = 0 by decide,
     show Go.bits .and .i64 8 1 = 0 by decide, show Go.bits .and .i64 8 2 = 0 by decide, show Go.bits .and .i64 8 4 = 0 by decide, show Go.bits .and .i64 8 8 = 8 by decide,
     show Go.bits .and .i64 9 1 = 1 by decide, show Go.bits .and .i64 9 2 = 0 by decide, show Go.bits .and .i64 9 4 = 0 by decide, show Go.bits .and .i64 9 8 = 8 by decide,
     show Go.bits .and .i64 10 1 = 0 by decide, show Go.bits .and .i64 10 2 = 2 by decide, show Go.bits .and .i64 10 4 = 0 by decide, show Go.bits .and .i64 10 8 = 8 by decide,
     show Go.bits .and .i64 11 1 = 1 by decide, show Go.bits .and .i64 11 2 = 2 by decide, show Go.bits .and .i64 11 4 = 0 by decide, show Go.bits .and .i64 11 8 = 8 by decide,
     show Go.bits .and .i64 14 1 = 0 by decide, show Go.bits .and .i64 14 2 = 2 by decide, show Go.bits .and .i64 14 4 = 4 by decide, show Go.bits .and .i64 14 8 = 8 by decide,
     show Go.bits .and .i64 15 1 = 1 by decide, show Go.bits .and .i64 15 2 = 2 by decide, show Go.bits .and .i64 15 4 = 4 by decide, show Go.bits .and .i64 15 8 = 8 by decide]
    try omega)
 ·have hn : ∀ c, 1 ≤ c → c ≤ 10 → o ≠ c := fun c h1 h2 e => ho (by omega)
  simp [ho, insOkB, hn]
def codeW (o r a b n : Int) : Int := if insOkB o r a b n = true then o + 16 * r + 64 * a + 256 * b + 1024 * n else 0
theorem implCode_eq (o r a b n : Int) : impl_Code.f o r a b n = some (codeW o r a b n, insOkB o r a b n) := by
 unfold impl_Code.f impl_InsOk.f codeW
 rw [Option.bind_some]
 by_cases h : insOkB o r a b n = true
 ·have hb := insOkB_bounds h
  rw [if_pos h, if_pos h, h]
  congr 2
  simp only [wrap_small (x := 16 * r) (by omega) (by omega), wrap_small (x := 64 * a) (by omega) (by omega), wrap_small (x := 256 * b) (by omega) (by omega), wrap_small (x := 1024 * n) (by omega) (by omega), wrap_small (x := o + 16 * r) (by omega) (by omega), wrap_small (x := o + 16 * r + 64 * a) (by omega) (by omega), wrap_small (x := o + 16 * r + 64 * a + 256 * b) (by omega) (by omega), wrap_small (x := o + 16 * r + 64 * a + 256 * b + 1024 * n) (by omega) (by omega)]
 ·have h' : insOkB o r a b n = false := by simpa using h
  rw [if_neg h, if_neg h, h']
theorem specCode_eq (o r a b n : Int) : spec_Code.f o r a b n = some (codeW o r a b n, insOkB o r a b n) := by
 rw [← implCode_eq]; unfold spec_Code.f impl_Code.f
 rw [specInsOk_eq]; rfl
theorem rdPart (l : List S49) (i : Nat) (h : i < l.length) : rd_T49 l (i : Int) = l[i] := by
 unfold rd_T49; simp [List.getD, h]
theorem specPartAt_eq (l : List S49) (a : ByteArray) (hl : l.length ≤ 1048576) (k : Nat) (hk : l.length < k) : spec_PartAt.f k l a = some (partIdx a l 0) := by
 unfold spec_PartAt.f
 have h : ∀ k i : Nat, i ≤ l.length → l.length < i + k → spec_PartAt.l0 k l a (i : Int) = some (partIdx a (l.drop i) i) := by
  intro k
  induction k with
  | zero => intro i h1 h2; omega
  | succ k ih =>
   intro i h1 h2
   rw [spec_PartAt.l0]
   by_cases hi : i < l.length
   ·rw [if_pos (by omega), if_pos (by omega), partIdx_drop a l i hi]
    by_cases hn : (rd_T49 l (i : Int)).f0.toList = a.toList
    ·rw [if_pos hn, if_pos hn]
    ·rw [if_neg hn, if_neg hn, wrap_succ (by omega)]; exact ih (i + 1) (by omega) (by omega)
   ·rw [if_neg (by omega), List.drop_of_length_le (by omega)]; rfl
 exact h k 0 (Nat.zero_le _) (by omega)
def nameB (s : ByteArray) : Bool := (List.range s.size).all (fun j => decide (97 ≤ bt s (j : Int) ∧ bt s (j : Int) ≤ 122)) && decide (1 ≤ (s.size : Int) ∧ (s.size : Int) ≤ 8)
theorem nameB_iff (s : ByteArray) : nameB s = true ↔ (∀ j, j < s.size → 97 ≤ bt s (j : Int) ∧ bt s (j : Int) ≤ 122) ∧ decide (1 ≤ (s.size : Int) ∧ (s.size : Int) ≤ 8) = true := by
 unfold nameB; rw [Bool.and_eq_true, List.all_eq_true]
 constructor
 ·rintro ⟨h1, h2⟩; exact ⟨fun j hj => of_decide_eq_true (h1 j (List.mem_range.2 hj)), h2⟩
 ·rintro ⟨h1, h2⟩; exact ⟨fun j hj => decide_eq_true (h1 j (List.mem_range.1 hj)), h2⟩
theorem nameOk_eq (s : ByteArray) (hs : s.size ≤ 1048576) (k : Nat) (hk : 1048580 < k) : impl_nameOk.f k s = some (nameB s) := by
 unfold impl_nameOk.f
 refine for_all (L := fun k i => impl_nameOk.l0 k s (s.size : Int) (i : Int)) (n := s.size) (fun j => 97 ≤ bt s (j : Int) ∧ bt s (j : Int) ≤ 122) ?_ ?_ (decide (1 ≤ (s.size : Int) ∧ (s.size : Int) ≤ 8)) ?_ (nameB_iff s) k (by omega)
 ·intro k i hi hp
  simp only [impl_nameOk.l0]
  rw [if_pos (by omega), if_pos (by omega), if_pos (by omega), if_neg (by omega), if_neg (by omega), wrap_succ (by omega)]
 ·intro k i hi hp
  simp only [impl_nameOk.l0]
  rw [if_pos (by omega), if_pos (by omega), if_pos (by omega)]
  by_cases h : bt s (i : Int) < 97
  ·rw [if_pos h]
  ·rw [if_neg h, if_pos (by omega)]
 ·intro k
  simp only [impl_nameOk.l0]
  rw [if_neg (by omega), from_eq, Option.bind_some]
theorem l27Name_eq (s : ByteArray) (hs : s.size ≤ 1048576) (k : Nat) (hk : 1048580 < k) : spec_l27Name.f k s = some (nameB s) := by
 unfold spec_l27Name.f
 refine for_all (L := fun k i => spec_l27Name.l0 k s (i : Int)) (n := s.size) (fun j => 97 ≤ bt s (j : Int) ∧ bt s (j : Int) ≤ 122) ?_ ?_ (decide (1 ≤ (s.size : Int) ∧ (s.size : Int) ≤ 8)) ?_ (nameB_iff s) k (by omega)
 ·intro k i hi hp
  simp only [spec_l27Name.l0]
  rw [if_pos (by omega), if_pos (by omega), if_neg (by omega), if_neg (by omega), wrap_succ (by omega)]
 ·intro k i hi hp
  simp only [spec_l27Name.l0]
  rw [if_pos (by omega), if_pos (by omega)]
  by_cases h : bt s (i : Int) < 97
  ·rw [if_pos h]
  ·rw [if_neg h, if_pos (by omega)]
 ·intro k
  simp only [spec_l27Name.l0]
  rw [if_neg (by omega), l1In_eq, Option.bind_some]
theorem rdRef' (l : List S61) (i : Nat) (h : i < l.length) : rd_T61 l (i : Int) = l[i] := by
 unfold rd_T61; simp [List.getD, h]
theorem rdIns' (l : List S57) (i : Nat) (h : i < l.length) : rd_T57 l (i : Int) = l[i] := by
 unfold rd_T57; simp [List.getD, h]
theorem refIdx_first (a : Int) : ∀ (l : List S61) (s i : Nat) (hi : i < l.length), (l[i]).f0 = a → (decide (0 ≤ refIdx a (l.take i) s) = !decide (refIdx a l s = ((s + i : Nat) : Int)))
 | [], _, _, hi, _ => absurd hi (by simp)
 | x :: r, s, 0, _, hx => by
  have e : refIdx a (x :: r) s = (s : Int) := by rw [refIdx]; exact if_pos hx
  rw [List.take_zero, e, refIdx]; simp
 | x :: r, s, i + 1, hi, hx => by
  rw [List.take_succ_cons, refIdx, refIdx]
  by_cases h : x.f0 = a
  ·rw [if_pos h, if_pos h, decide_eq_true (by omega), decide_eq_false (by omega)]; rfl
  ·rw [if_neg h, if_neg h, refIdx_first a r (s + 1) i (by simpa using hi) (by simpa using hx), show s + 1 + i = s + (i + 1) by omega]
theorem l27Ref_eq (n : ByteArray) (l : List S57) (r : List S61) (a : Int) (hr : r.length ≤ 1048576) (k : Nat) (hk : 1048580 < k) : spec_l27Ref.f k n l r a = some (refIdx a r 0) := by
 unfold spec_l27Ref.f
 have h : ∀ k i : Nat, i ≤ r.length → r.length < i + k → spec_l27Ref.l0 k a (i : Int) n l r = some (refIdx a (r.drop i) i) := by
  intro k
  induction k with
  | zero => intro i h1 h2; omega
  | succ k ih =>
   intro i h1 h2
   rw [spec_l27Ref.l0]
   by_cases hi : i < r.length
   ·rw [if_pos (by omega), if_pos (by omega), refIdx_drop a r i hi]
    by_cases hn : (rd_T61 r (i : Int)).f0 = a
    ·rw [if_pos hn, if_pos hn]
    ·rw [if_neg hn, if_neg hn, wrap_succ (by omega)]; exact ih (i + 1) (by omega) (by omega)
   ·rw [if_neg (by omega), List.drop_of_length_le (by omega)]; rfl
 exact h k 0 (Nat.zero_le _) (by omega)
def insB (x : S57) : Bool := insOkB x.f0 x.f1 x.f2 x.f3 x.f4
def goesB (x : S57) : Bool := decide (x.f0 = 8 ∨ x.f0 = 7)
def refCond (l : List S57) (r : List S61) (i : Nat) : Bool :=
 decide (0 ≤ (rd_T61 r (i : Int)).f0 ∧ (rd_T61 r (i : Int)).f0 ≤ (l.length : Int) - 1) && (decide (refIdx (rd_T61 r (i : Int)).f0 r 0 = (i : Int)) && (goesB (rd_T57 l (rd_T61 r (i : Int)).f0) && nameB (rd_T61 r (i : Int)).f1))
def refsB (l : List S57) (r : List S61) : Bool := (List.range r.length).all (refCond l r)
def partB (n : ByteArray) (l : List S57) (r : List S61) : Bool := nameB n && (decide (1 ≤ (l.length : Int) ∧ (l.length : Int) ≤ 24) && (decide (r.length ≤ 24) && (l.all insB && refsB l r)))
theorem refsB_iff (l : List S57) (r : List S61) : refsB l r = true ↔ (∀ j, j < r.length → refCond l r j = true) ∧ true = true := by
 unfold refsB; rw [List.all_eq_true]
 exact ⟨fun h => ⟨fun j hj => h j (List.mem_range.2 hj), rfl⟩, fun h j hj => h.1 j (List.mem_range.1 hj)⟩
theorem goes_eq (x : S57) : impl_goesTo.f x.f0 x.f1 x.f2 x.f3 x.f4 = some (goesB x) := by
 unfold impl_goesTo.f goesB
 by_cases h : x.f0 = 8
 ·rw [if_pos h]; simp [h]
 ·rw [if_neg h]; simp only [h, false_or]; congr 1
theorem l27Goes_eq (x : S57) : spec_l27Goes.f x.f0 x.f1 x.f2 x.f3 x.f4 = some (goesB x) := goes_eq x
theorem implPartOk_eq (n : ByteArray) (l : List S57) (r : List S61) (hn : n.size ≤ 1048576) (hl : l.length ≤ 1048576) (hr : r.length ≤ 1048576) (hx : ∀ x ∈ r, x.f1.size ≤ 1048576) (k : Nat) (hk : 4000000 < k) : impl_PartOk.f k n l r = some (partB n l r) := by
 obtain ⟨k, rfl⟩ : ∃ m, k = m + 1 := ⟨k - 1, by omega⟩
 have jt : impl_PartOk.j0 (k + 1) true n l r = some false := by rw [impl_PartOk.j0, if_pos rfl]
 unfold impl_PartOk.f partB
 rw [nameOk_eq n hn _ (by omega), Option.bind_some]
 by_cases h1 : nameB n = true
 ·rw [if_pos h1, h1, from_eq, Option.bind_some, Bool.true_and]
  by_cases h2 : 1 ≤ (l.length : Int) ∧ (l.length : Int) ≤ 24
  ·rw [if_pos (decide_eq_true h2), decide_eq_true h2, Bool.true_and]
   by_cases h3 : r.length ≤ 24
   ·rw [if_neg (by omega), decide_eq_true h3, Bool.true_and]
    unfold slices_ContainsFunc_at_impl_PartOk_1.f slices_IndexFunc_at_impl_PartOk_1.f
    have hf : ∀ x : S57, impl_PartOk_1.f x.f0 x.f1 x.f2 x.f3 x.f4 = some (!insB x) := fun x => rfl
    have H := idx_any (n := l.length) (fun k i => slices_IndexFunc_at_impl_PartOk_1.l0 k l (l.length : Int) (i : Int)) (fun i => !insB (rd_T57 l (i : Int))) ?_ ?_ ?_ (!(l.all insB)) ?_ (k + 1) (by omega)
    ·obtain ⟨v, e, hv⟩ := H
     have e' : slices_IndexFunc_at_impl_PartOk_1.l0 (k + 1) l (l.length : Int) 0 = some v := e
     rw [e', Option.bind_some, Option.bind_some, hv]
     cases hb : l.all insB
     ·rw [Bool.not_false, jt, Bool.false_and]
     ·rw [Bool.not_true, impl_PartOk.j0, if_neg (by simp), Bool.true_and]
      refine for_all (L := fun k' i => impl_PartOk.l0 (k' + 1048581) r (r.length : Int) (i : Int) n l r) (n := r.length) (fun j => refCond l r j = true) ?_ ?_ true ?_ (refsB_iff l r) (k - 1048581) (by omega) |> fun h => by rw [show k - 1048581 + 1048581 = k by omega] at h; exact h
      ·intro k' i hi hp
       have hs : (rd_T61 r (i : Int)).f1.size ≤ 1048576 := by rw [rdRef' r i hi]; exact hx _ (List.getElem_mem hi)
       have hff := refIdx_first (rd_T61 r (i : Int)).f0 r 0 i hi (by rw [rdRef' r i hi])
       rw [Nat.zero_add] at hff
       unfold refCond at hp
       rw [Bool.and_eq_true, Bool.and_eq_true, Bool.and_eq_true] at hp
       obtain ⟨p1, p2, p3, p4⟩ := hp
       have q1 := of_decide_eq_true p1
       rw [show k' + 1 + 1048581 = (k' + 1048581) + 1 by omega, impl_PartOk.l0, if_pos (by omega), if_pos (by omega), if_pos (by omega), wrap_small (by omega) (by omega), from_eq, p1, Option.bind_some, if_pos rfl, if_pos (by omega), Int.toNat_natCast, impl_isRef.f, hff, p2, Option.bind_some, if_neg (by simp), if_pos q1.1, if_pos (by omega), goes_eq, p3, Option.bind_some, if_pos rfl, nameOk_eq _ hs _ (by omega), p4, Option.bind_some, if_pos rfl, wrap_succ (by omega)]
      ·intro k' i hi hp
       have hs : (rd_T61 r (i : Int)).f1.size ≤ 1048576 := by rw [rdRef' r i hi]; exact hx _ (List.getElem_mem hi)
       have hff := refIdx_first (rd_T61 r (i : Int)).f0 r 0 i hi (by rw [rdRef' r i hi])
       rw [Nat.zero_add] at hff
       rw [show k' + 1 + 1048581 = (k' + 1048581) + 1 by omega, impl_PartOk.l0, if_pos (by omega), if_pos (by omega), if_pos (by omega), wrap_small (by omega) (by omega), from_eq, Option.bind_some]
       by_cases q1 : 0 ≤ (rd_T61 r (i : Int)).f0 ∧ (rd_T61 r (i : Int)).f0 ≤ (l.length : Int) - 1
       ·rw [if_pos (decide_eq_true q1), if_pos (by omega), Int.toNat_natCast, impl_isRef.f, hff, Option.bind_some]
        by_cases q2 : refIdx (rd_T61 r (i : Int)).f0 r 0 = (i : Int)
        ·rw [decide_eq_true q2, if_neg (by simp), if_pos q1.1, if_pos (by omega), goes_eq, Option.bind_some]
         by_cases q3 : goesB (rd_T57 l (rd_T61 r (i : Int)).f0) = true
         ·rw [if_pos q3, nameOk_eq _ hs _ (by omega), Option.bind_some]
          have q4 : ¬ nameB (rd_T61 r (i : Int)).f1 = true := fun q4 => hp (by unfold refCond; rw [decide_eq_true q1, decide_eq_true q2, q3, q4]; rfl)
          rw [if_neg q4]
         ·rw [if_neg q3]
        ·rw [decide_eq_false q2, if_pos (by simp)]
       ·rw [if_neg (by simpa using q1)]
      ·intro k'
       rw [show k' + 1 + 1048581 = (k' + 1048581) + 1 by omega, impl_PartOk.l0, if_neg (by omega)]
    ·intro k i hi hq
     simp only [slices_IndexFunc_at_impl_PartOk_1.l0]
     rw [if_pos (by omega), if_pos (by omega), if_pos (by omega), hf, hq, Option.bind_some, if_neg (by simp), wrap_succ (by omega)]
    ·intro k i hi hq
     simp only [slices_IndexFunc_at_impl_PartOk_1.l0]
     rw [if_pos (by omega), if_pos (by omega), if_pos (by omega), hf, hq, Option.bind_some, if_pos rfl]
    ·intro k
     simp only [slices_IndexFunc_at_impl_PartOk_1.l0]
     rw [if_neg (by omega)]
    ·constructor
     ·intro h
      refine Classical.byContradiction fun hn => ?_
      have : l.all insB = true := List.all_eq_true.2 fun x hx => by
       obtain ⟨j, hj, rfl⟩ := List.getElem_of_mem hx
       refine Classical.byContradiction fun hh => hn ⟨j, hj, ?_⟩
       rw [rdIns' l j hj, Bool.eq_false_iff.2 hh]; rfl
      rw [this] at h; exact absurd h (by simp)
     ·rintro ⟨j, hj, hq⟩
      cases hc' : l.all insB
      ·rfl
      ·have := List.all_eq_true.1 hc' _ (List.getElem_mem hj)
       rw [rdIns' l j hj, this] at hq; exact absurd hq (by simp)
   ·rw [if_pos (by omega), jt, decide_eq_false h3, Bool.false_and]
  ·rw [if_neg (by simpa using h2), jt, decide_eq_false h2, Bool.false_and]
 ·rw [if_neg h1, jt, Bool.eq_false_iff.2 h1, Bool.false_and]
theorem specPartOk_eq (n : ByteArray) (l : List S57) (r : List S61) (hn : n.size ≤ 1048576) (hl : l.length ≤ 1048576) (hr : r.length ≤ 1048576) (hx : ∀ x ∈ r, x.f1.size ≤ 1048576) (k : Nat) (hk : 5000000 < k) : spec_PartOk.f k n l r = some (partB n l r) := by
 unfold spec_PartOk.f
 have hj : ∀ k, 3500000 < k → spec_PartOk.l1 k 0 n l r = some (refsB l r) := by
  intro k hk
  refine for_all (L := fun k' i => spec_PartOk.l1 (k' + 1048581) (i : Int) n l r) (n := r.length) (fun j => refCond l r j = true) ?_ ?_ true ?_ (refsB_iff l r) (k - 1048581) (by omega) |> fun h => by rw [show k - 1048581 + 1048581 = k by omega] at h; exact h
  ·intro k' i hi hp
   have hs : (rd_T61 r (i : Int)).f1.size ≤ 1048576 := by rw [rdRef' r i hi]; exact hx _ (List.getElem_mem hi)
   unfold refCond at hp
   rw [Bool.and_eq_true, Bool.and_eq_true, Bool.and_eq_true] at hp
   obtain ⟨p1, p2, p3, p4⟩ := hp
   have q1 := of_decide_eq_true p1
   rw [show k' + 1 + 1048581 = (k' + 1048581) + 1 by omega, spec_PartOk.l1, if_pos (by omega), if_pos (by omega), wrap_small (by omega) (by omega), l1In_eq, p1, Option.bind_some, if_pos rfl, if_pos q1.1, if_pos (by omega), l27Goes_eq, p3, Option.bind_some, if_pos rfl, l27Name_eq _ hs _ (by omega), p4, Option.bind_some, if_pos rfl, l27Ref_eq n l r _ hr _ (by omega), Option.bind_some, if_pos (of_decide_eq_true p2), wrap_succ (by omega)]
  ·intro k' i hi hp
   have hs : (rd_T61 r (i : Int)).f1.size ≤ 1048576 := by rw [rdRef' r i hi]; exact hx _ (List.getElem_mem hi)
   rw [show k' + 1 + 1048581 = (k' + 1048581) + 1 by omega, spec_PartOk.l1, if_pos (by omega), if_pos (by omega), wrap_small (by omega) (by omega), l1In_eq, Option.bind_some]
   by_cases q1 : 0 ≤ (rd_T61 r (i : Int)).f0 ∧ (rd_T61 r (i : Int)).f0 ≤ (l.length : Int) - 1
   ·rw [if_pos (decide_eq_true q1), if_pos q1.1, if_pos (by omega), l27Goes_eq, Option.bind_some]
    by_cases q3 : goesB (rd_T57 l (rd_T61 r (i : Int)).f0) = true
    ·rw [if_pos q3, l27Name_eq _ hs _ (by omega), Option.bind_some]
     by_cases q4 : nameB (rd_T61 r (i : Int)).f1 = true
     ·rw [if_pos q4, l27Ref_eq n l r _ hr _ (by omega), Option.bind_some]
      have q2 : ¬ refIdx (rd_T61 r (i : Int)).f0 r 0 = (i : Int) := fun q2 => hp (by unfold refCond; rw [decide_eq_true q1, decide_eq_true q2, q3, q4]; rfl)
      rw [if_neg q2]
     ·rw [if_neg q4]
    ·rw [if_neg q3]
   ·rw [if_neg (by simpa using q1)]
  ·intro k'
   rw [show k' + 1 + 1048581 = (k' + 1048581) + 1 by omega, spec_PartOk.l1, if_neg (by omega)]
 have hins : ∀ x : S57, spec_InsOk.f x.f0 x.f1 x.f2 x.f3 x.f4 = some (insB x) := fun x => specInsOk_eq _ _ _ _ _
 refine for_all (L := fun k' i => spec_PartOk.l0 (k' + 3600000) (i : Int) n l r) (n := l.length) (fun j => insB (rd_T57 l (j : Int)) = true) ?_ ?_ (nameB n && (decide (1 ≤ (l.length : Int) ∧ (l.length : Int) ≤ 24) && (decide (r.length ≤ 24) && refsB l r))) ?_ (q := partB n l r) ?_ (k - 3600000) (by omega) |> fun h => by rw [show k - 3600000 + 3600000 = k by omega] at h; exact h
 ·intro k' i hi hp
  rw [show k' + 1 + 3600000 = (k' + 3600000) + 1 by omega, spec_PartOk.l0, if_pos (by omega), if_pos (by omega), hins, hp, Option.bind_some, if_pos rfl, wrap_succ (by omega)]
 ·intro k' i hi hp
  rw [show k' + 1 + 3600000 = (k' + 3600000) + 1 by omega, spec_PartOk.l0, if_pos (by omega), if_pos (by omega), hins, Option.bind_some, if_neg hp]
 ·intro k'
  have jt : spec_PartOk.j1 (k' + 3600000) true n l r = some false := by rw [show k' + 3600000 = (k' + 3599999) + 1 by omega, spec_PartOk.j1, if_pos rfl]
  have jf : spec_PartOk.j1 (k' + 3600000) false n l r = some (refsB l r) := by rw [show k' + 3600000 = (k' + 3599999) + 1 by omega, spec_PartOk.j1, if_neg (by simp)]; exact hj _ (by omega)
  rw [show k' + 1 + 3600000 = (k' + 3600000) + 1 by omega, spec_PartOk.l0, if_neg (by omega), l27Name_eq n hn _ (by omega), Option.bind_some]
  by_cases h1 : nameB n = true
  ·rw [if_pos h1, h1, l1In_eq, Option.bind_some, Bool.true_and]
   by_cases h2 : 1 ≤ (l.length : Int) ∧ (l.length : Int) ≤ 24
   ·rw [if_pos (decide_eq_true h2), decide_eq_true h2, Bool.true_and]
    by_cases h3 : r.length ≤ 24
    ·rw [decide_eq_false (by omega : ¬ (r.length : Int) > 24), jf, decide_eq_true h3, Bool.true_and]
    ·rw [decide_eq_true (by omega : (r.length : Int) > 24), jt, decide_eq_false h3, Bool.false_and]
   ·rw [if_neg (by simpa using h2), jt, decide_eq_false h2, Bool.false_and]
  ·rw [if_neg h1, jt, Bool.eq_false_iff.2 h1, Bool.false_and]
 ·have ha : l.all insB = true ↔ ∀ j, j < l.length → insB (rd_T57 l (j : Int)) = true := by
   rw [List.all_eq_true]
   constructor
   ·intro h j hj; rw [rdIns' l j hj]; exact h _ (List.getElem_mem hj)
   ·intro h x hx
    obtain ⟨j, hj, rfl⟩ := List.getElem_of_mem hx
    have := h j hj; rwa [rdIns' l j hj] at this
  unfold partB
  simp only [Bool.and_eq_true]
  rw [← ha]
  constructor
  ·rintro ⟨h1, h2, h3, h4, h5⟩; exact ⟨h4, h1, h2, h3, h5⟩
  ·rintro ⟨h4, h1, h2, h3, h5⟩; exact ⟨h1, h2, h3, h4, h5⟩
theorem and_range (x : Int) (m : Nat) (hm : m < 2 ^ 62) : 0 ≤ Go.bits .and .i64 x (m : Int) ∧ Go.bits .and .i64 x (m : Int) ≤ (m : Int) := by
 have h : (BitVec.ofInt 64 x &&& BitVec.ofInt 64 (m : Int)).toNat ≤ m := by
  rw [BitVec.toNat_and]
  refine Nat.le_trans Nat.and_le_right ?_
  rw [BitVec.ofInt_natCast, BitVec.toNat_ofNat]
  exact Nat.mod_le _ _
 have e : Go.bits .and .i64 x (m : Int) = (((BitVec.ofInt 64 x &&& BitVec.ofInt 64 (m : Int)).toNat : Nat) : Int) := by
  show IntKind.i64.wrap (((BitVec.ofInt 64 x &&& BitVec.ofInt 64 (m : Int)).toNat : Nat) : Int) = _
  exact wraps_i64 _ (by omega) (by omega)
 rw [e]; omega
def curOk (c : List Int) (i : Int) : Prop := c.length ≤ 1048576 ∧ 0 ≤ i ∧ i ≤ (c.length : Int)
theorem l1New_ex (c : List Int) (hc : c.length ≤ 1048576) (k : Nat) (hk : 4010 < k) : ∃ i s, spec_l1New.f k c = some (c, i, s) ∧ curOk c i := by
 unfold spec_l1New.f
 have h : ∀ (k j : Nat) (s : Int), j ≤ 4000 → 4000 < j + k → ∃ i s', spec_l1New.l0 k c s (j : Int) = some (c, i, s') ∧ curOk c i := by
  intro k
  induction k with
  | zero => intro j s h1 h2; omega
  | succ k ih =>
   intro j s h1 h2
   rw [spec_l1New.l0]
   by_cases h : (j : Int) < (c.length : Int)
   ·rw [if_pos h]
    by_cases h' : (j : Int) < 4000
    ·rw [if_pos h', if_pos (by omega), wrap_succ (by omega)]; exact ih _ _ (by omega) (by omega)
    ·rw [if_neg h']; exact ⟨_, _, rfl, hc, by omega, by omega⟩
   ·rw [if_neg h]; exact ⟨_, _, rfl, hc, by omega, by omega⟩
 exact h k 0 _ (by omega) (by omega)
theorem l1Byte_ex (c : List Int) (i s : Int) (h : curOk c i) : ∃ b i' s', spec_l1Byte.f c i s = some (b, i', s') ∧ 0 ≤ b ∧ b ≤ 255 ∧ curOk c i' := by
 unfold spec_l1Byte.f
 obtain ⟨h1, h2, h3⟩ := h
 by_cases hl : i < (c.length : Int)
 ·rw [if_pos hl, if_pos h2]
  have hr := fun x => and_range x 255 (by decide)
  exact ⟨_, _, _, rfl, (hr _).1, (hr _).2, h1, by unfold wrap64; omega, by unfold wrap64; omega⟩
 ·rw [if_neg hl]
  have hr := fun x => and_range x 255 (by decide)
  exact ⟨_, _, _, rfl, (hr _).1, (hr _).2, h1, h2, h3⟩
theorem l1Below_ex (c : List Int) (i s : Int) (h : curOk c i) (n : Int) (hn : 0 < n) (hb : n ≤ 4294967296) : ∃ v i' s', spec_l1Below.f c i s n = some (v, i', s') ∧ 0 ≤ v ∧ v < n ∧ curOk c i' := by
 unfold spec_l1Below.f
 rw [if_neg (by omega)]
 by_cases hs : n ≤ 256
 ·obtain ⟨b, i1, s1, e, h0, h1, hc⟩ := l1Byte_ex c i s h
  rw [if_pos hs, e, Option.bind_some, if_neg (by omega)]
  exact ⟨_, _, _, rfl, Int.tmod_nonneg _ h0, Int.tmod_lt_of_pos _ hn, hc⟩
 ·obtain ⟨b1, i1, s1, e1, p1, q1, c1⟩ := l1Byte_ex c i s h
  obtain ⟨b2, i2, s2, e2, p2, q2, c2⟩ := l1Byte_ex c i1 s1 c1
  obtain ⟨b3, i3, s3, e3, p3, q3, c3⟩ := l1Byte_ex c i2 s2 c2
  obtain ⟨b4, i4, s4, e4, p4, q4, c4⟩ := l1Byte_ex c i3 s3 c3
  rw [if_neg hs]
  simp only [e1, e2, e3, e4, Option.bind_some]
  rw [if_neg (by omega)]
  exact ⟨_, _, _, rfl, Int.tmod_nonneg _ (by unfold wrap64; omega), Int.tmod_lt_of_pos _ hn, c4⟩
theorem l1Once_ex (c : List Int) (i s : Int) (h : curOk c i) (n : Int) (hn : 0 < n) (hb : n ≤ 4294967296) : ∃ v i' s', spec_l1Once.f c i s n = some (v, i', s') ∧ curOk c i' := by
 unfold spec_l1Once.f
 obtain ⟨v, i1, s1, e, _, _, hc⟩ := l1Below_ex c i s h n hn hb
 rw [e, Option.bind_some]
 exact ⟨_, _, _, rfl, hc⟩
theorem l1PickInt_ex (c : List Int) (i s : Int) (h : curOk c i) (l : List Int) (h0 : 0 < l.length) (h1 : l.length ≤ 1000) : ∃ v i' s', spec_l1PickInt.f c i s l = some (v, i', s') ∧ v ∈ l ∧ curOk c i' := by
 unfold spec_l1PickInt.f
 obtain ⟨v, i1, s1, e, p, q, hc⟩ := l1Below_ex c i s h (l.length : Int) (by omega) (by omega)
 rw [e, Option.bind_some, if_pos p, if_pos q]
 refine ⟨_, _, _, rfl, ?_, hc⟩
 obtain ⟨j, rfl⟩ : ∃ j : Nat, v = (j : Int) := ⟨v.toNat, by omega⟩
 exact rd_mem l j (by omega)
theorem l8Has_ex (o : Int) (h0 : 1 ≤ o) (h1 : o ≤ 10) : ∃ v, spec_l8Has.f o = some v := by
 unfold spec_l8Has.f
 rw [l1In_eq, decide_eq_true ⟨h0, h1⟩, Option.bind_some, if_pos rfl, Option.bind_some, if_pos (by omega), if_pos (by simp; omega)]
 exact ⟨_, rfl⟩
theorem drawIns_j1 (x : Int) (c : List Int) (i s : Int) (h : curOk c i) (o r a b n : Int) (k : Nat) : ∃ o' r' a' b' n' i' s', spec_l8DrawIns.j1 (k + 1) x c i s o r a b n = some (o', r', a', b', n', i', s') ∧ curOk c i' := by
 rw [spec_l8DrawIns.j1]
 obtain ⟨v, i1, s1, e1, _, _, c1⟩ := l1Below_ex c i s h 4 (by omega) (by omega)
 obtain ⟨v2, i2, s2, e2, _, c2⟩ := l1PickInt_ex c i s h [0, 1, 2, 4, 8, 9, 12, 20, 23] (by simp) (by simp)
 obtain ⟨v3, i3, s3, e3, _, c3⟩ := l1PickInt_ex c i1 s1 c1 [0, 1, 2, 4, 8, 9, 12, 20, 23] (by simp) (by simp)
 by_cases h1 : Go.bits .and .i64 x 4 = 0
 ·rw [if_pos h1]
  by_cases h2 : Go.bits .and .i64 x 8 = 0
  ·rw [if_pos h2]; exact ⟨_, _, _, _, _, _, _, rfl, h⟩
  ·rw [if_neg h2, e2, Option.bind_some]; exact ⟨_, _, _, _, _, _, _, rfl, c2⟩
 ·rw [if_neg h1, e1, Option.bind_some]
  by_cases h2 : Go.bits .and .i64 x 8 = 0
  ·rw [if_pos h2]; exact ⟨_, _, _, _, _, _, _, rfl, c1⟩
  ·rw [if_neg h2]
   simp only [e3, Option.bind_some]; exact ⟨_, _, _, _, _, _, _, rfl, c3⟩
theorem drawIns_j0 (x : Int) (c : List Int) (i s : Int) (h : curOk c i) (o r a b n : Int) (k : Nat) : ∃ o' r' a' b' n' i' s', spec_l8DrawIns.j0 (k + 2) x c i s o r a b n = some (o', r', a', b', n', i', s') ∧ curOk c i' := by
 rw [spec_l8DrawIns.j0]
 obtain ⟨v, i1, s1, e1, _, _, c1⟩ := l1Below_ex c i s h 4 (by omega) (by omega)
 by_cases h1 : Go.bits .and .i64 x 2 = 0
 ·rw [if_pos h1]; exact drawIns_j1 x c i s h o r a b n k
 ·rw [if_neg h1, e1, Option.bind_some]; exact drawIns_j1 x c i1 s1 c1 o r v b n k
theorem drawIns_ex (c : List Int) (i s : Int) (h : curOk c i) (k : Nat) (hk : 2 ≤ k) : ∃ o r a b n i' s', spec_l8DrawIns.f k c i s = some (o, r, a, b, n, i', s') ∧ curOk c i' := by
 obtain ⟨k, rfl⟩ : ∃ m, k = m + 2 := ⟨k - 2, by omega⟩
 unfold spec_l8DrawIns.f
 obtain ⟨o, i1, s1, e1, ho, c1⟩ := l1PickInt_ex c i s h [1, 1, 2, 3, 3, 4, 4, 5, 5, 5, 6, 6, 7, 8, 9, 10] (by simp) (by simp)
 have ho' : 1 ≤ o ∧ o ≤ 10 := by simp at ho; omega
 obtain ⟨x, ex⟩ := l8Has_ex o ho'.1 ho'.2
 rw [e1, Option.bind_some]
 simp only [ex, Option.bind_some]
 by_cases h1 : Go.bits .and .i64 x 1 = 0
 ·rw [if_pos h1]; exact drawIns_j0 x c i1 s1 c1 o 0 0 0 0 k
 ·obtain ⟨v, i2, s2, e2, _, _, c2⟩ := l1Below_ex c i1 s1 c1 4 (by omega) (by omega)
  rw [if_neg h1, e2, Option.bind_some]; exact drawIns_j0 x c i2 s2 c2 o v 0 0 0 k
theorem sameInts_same (l : List Int) (hl : l.length ≤ 1048576) (k : Nat) (hk : 1048580 < k) : laws_sameInts.f k l l = some true := by
 unfold laws_sameInts.f
 rw [if_pos rfl]
 refine same_loop (C := 0) (n := l.length) (fun k i => laws_sameInts.l0 k l l (i : Int)) ?_ ?_ k (by omega)
 ·intro k i hi _
  simp only [laws_sameInts.l0]
  rw [if_pos (by omega), if_pos (by omega), if_pos (by omega), if_pos trivial, wrap_succ (by omega)]
 ·intro k
  simp only [laws_sameInts.l0]
  rw [if_neg (by omega)]
def decodeB (w : Int) : Bool := decide (0 ≤ w ∧ w ≤ 65535) && insOkB (w % 16) (w / 16 % 4) (w / 64 % 4) (w / 256 % 4) (w / 1024)
def decodeV (w : Int) : Int × Int × Int × Int × Int × Bool := if decodeB w = true then (w % 16, w / 16 % 4, w / 64 % 4, w / 256 % 4, w / 1024, true) else (0, 0, 0, 0, 0, false)
theorem implDecode_eq (w : Int) : impl_Decode.f w = some (decodeV w) := by
 unfold impl_Decode.f decodeV decodeB impl_InsOk.f
 rw [isWord_eq, Option.bind_some]
 by_cases h : 0 ≤ w ∧ w ≤ 65535
 ·rw [decide_eq_true h, if_pos rfl, Bool.true_and]
  have e1 : Int.tmod w 16 = w % 16 := tmod_pos _ _ h.1
  have e2 : Int.tmod (wrap64 (Int.tdiv w 16)) 4 = w / 16 % 4 := by rw [tdiv_pos _ _ h.1, wrap_small (by omega) (by omega), tmod_pos _ _ (by omega)]
  have e3 : Int.tmod (wrap64 (Int.tdiv w 64)) 4 = w / 64 % 4 := by rw [tdiv_pos _ _ h.1, wrap_small (by omega) (by omega), tmod_pos _ _ (by omega)]
  have e4 : Int.tmod (wrap64 (Int.tdiv w 256)) 4 = w / 256 % 4 := by rw [tdiv_pos _ _ h.1, wrap_small (by omega) (by omega), tmod_pos _ _ (by omega)]
  have e5 : wrap64 (Int.tdiv w 1024) = w / 1024 := by rw [tdiv_pos _ _ h.1, wrap_small (by omega) (by omega)]
  rw [e1, e2, e3, e4, e5, Option.bind_some]
  by_cases c : insOkB (w % 16) (w / 16 % 4) (w / 64 % 4) (w / 256 % 4) (w / 1024) = true
  ·rw [if_pos c, if_pos c]
  ·rw [if_neg c, if_neg c]
 ·rw [decide_eq_false h, if_neg (by simp), Bool.false_and, if_neg (by simp)]
def okP (l : List S49) (i : Nat) : Bool := partB (rd_T49 l (i : Int)).f0 (rd_T49 l (i : Int)).f1 (rd_T49 l (i : Int)).f2 && decide (partIdx (rd_T49 l (i : Int)).f0 l 0 = (i : Int))
def atTo (l : List S49) : Nat → Nat
 | 0 => 0
 | i + 1 => atTo l i + (rd_T49 l (i : Int)).f1.length
def outTo (l : List S49) (i : Nat) : List Int := (List.range i).map fun j => (atTo l j : Int)
theorem outTo_len (l : List S49) (i : Nat) : (outTo l i).length = i := by simp [outTo]
theorem outTo_succ (l : List S49) (i : Nat) : outTo l i ++ [(atTo l i : Int)] = outTo l (i + 1) := by unfold outTo; rw [List.range_succ, List.map_append]; rfl
def layB (l : List S49) : Bool := decide (l.length ≤ 4) && ((List.range l.length).all (okP l) && decide (atTo l l.length ≤ 24))
def layV (l : List S49) : List Int × Bool := if layB l = true then (outTo l l.length, true) else ([], false)
theorem layV_no (l : List S49) (i : Nat) (h : i < l.length) (h2 : okP l i = false) : layV l = ([], false) := by
 unfold layV
 rw [if_neg]
 intro q
 unfold layB at q
 rw [Bool.and_eq_true, Bool.and_eq_true, List.all_eq_true] at q
 have := q.2.1 i (List.mem_range.2 h)
 rw [h2] at this; exact absurd this (by simp)
def partsIn (l : List S49) : Prop := ∀ x ∈ l, x.f0.size ≤ 1048576 ∧ x.f1.length ≤ 1048576 ∧ x.f2.length ≤ 1048576 ∧ ∀ y ∈ x.f2, y.f1.size ≤ 1048576
theorem atTo_le (l : List S49) (hx : partsIn l) : ∀ i, i ≤ l.length → atTo l i ≤ 1048576 * i
 | 0, _ => Nat.le_refl _
 | i + 1, h => by
  have h1 := atTo_le l hx i (by omega)
  have h2 := (hx _ (List.getElem_mem (by omega : i < l.length))).2.1
  rw [atTo, rdPart l i (by omega)]; omega
theorem layV_end (l : List S49) (h4 : l.length ≤ 4) (hk : ∀ j, j < l.length → okP l j = true) : layV l = if (atTo l l.length : Int) > 24 then ([], false) else (outTo l l.length, true) := by
 unfold layV
 by_cases c : (atTo l l.length : Int) > 24
 ·rw [if_pos c, if_neg]
  intro q
  unfold layB at q
  rw [Bool.and_eq_true, Bool.and_eq_true] at q
  have := of_decide_eq_true q.2.2
  omega
 ·rw [if_neg c, if_pos]
  unfold layB
  rw [decide_eq_true h4, decide_eq_true (by omega), Bool.true_and, Bool.and_true, List.all_eq_true]
  exact fun j hj => hk j (List.mem_range.1 hj)
theorem implLay_l (l : List S49) (hx : partsIn l) (h4 : l.length ≤ 4) : ∀ (d i k : Nat), i + d = l.length → 6000000 + d < k → (∀ j, j < i → okP l j = true) →
  impl_Layout.l0 k l (outTo l i) (atTo l i : Int) l (l.length : Int) (i : Int) = some (layV l)
 | 0, i, k, hi, hk, hj => by
  obtain ⟨k, rfl⟩ : ∃ m, k = m + 1 := ⟨k - 1, by omega⟩
  have e : i = l.length := by omega
  subst e
  rw [impl_Layout.l0, if_neg (by omega), layV_end l h4 hj]
  split <;> rfl
 | d + 1, i, k, hi, hk, hj => by
  obtain ⟨k, rfl⟩ : ∃ m, k = m + 1 := ⟨k - 1, by omega⟩
  have hm := List.getElem_mem (by omega : i < l.length)
  have hxi := hx _ hm
  have hat := atTo_le l hx i (by omega)
  have er := rdPart l i (by omega)
  have no : okP l i = false → layV l = ([], false) := layV_no l i (by omega)
  have e2 : impl_PartAt.f l (rd_T49 l (i : Int)).f0 = some (partIdx (rd_T49 l (i : Int)).f0 l 0) := rfl
  have e1 : impl_PartOk.f k (rd_T49 l (i : Int)).f0 (rd_T49 l (i : Int)).f1 (rd_T49 l (i : Int)).f2 = some (partB (rd_T49 l (i : Int)).f0 (rd_T49 l (i : Int)).f1 (rd_T49 l (i : Int)).f2) := by
   rw [er]; exact implPartOk_eq _ _ _ hxi.1 hxi.2.1 hxi.2.2.1 hxi.2.2.2 k (by omega)
  rw [impl_Layout.l0, if_pos (by omega), if_pos (by omega), if_pos (by omega), e1, Option.bind_some]
  by_cases p : partB (rd_T49 l (i : Int)).f0 (rd_T49 l (i : Int)).f1 (rd_T49 l (i : Int)).f2 = true
  ·rw [if_pos p, e2, Option.bind_some]
   by_cases q : partIdx (rd_T49 l (i : Int)).f0 l 0 = (i : Int)
   ·have ok : okP l i = true := by unfold okP; rw [p, decide_eq_true q]; rfl
    have hl2 : (rd_T49 l (i : Int)).f1.length ≤ 1048576 := by rw [er]; exact hxi.2.1
    rw [if_pos q, if_pos (by rw [outTo_len]; omega), outTo_succ, wrap_succ (by omega), wrap_small (x := (atTo l i : Int) + _) (by omega) (by omega)]
    have := implLay_l l hx h4 d (i + 1) k (by omega) (by omega) (fun j hj' => by
     by_cases e : j = i
     ·subst e; exact ok
     ·exact hj j (by omega))
    rw [atTo, Int.natCast_add] at this
    exact this
   ·rw [if_neg q, no (by unfold okP; rw [decide_eq_false q, Bool.and_false])]
  ·rw [if_neg p, no (by unfold okP; rw [Bool.eq_false_iff.2 p, Bool.false_and])]
theorem implLayout_eq (l : List S49) (hx : partsIn l) (k : Nat) (hk : 6000010 < k) : impl_Layout.f k l = some (layV l) := by
 unfold impl_Layout.f
 by_cases c : (l.length : Int) > 4
 ·rw [if_pos c]; unfold layV layB; rw [decide_eq_false (by omega), Bool.false_and]; rfl
 ·rw [if_neg c]
  exact implLay_l l hx (by omega) l.length 0 k (by omega) (by omega) (fun j hj => by omega)
theorem specLay_l (l : List S49) (hx : partsIn l) (h4 : l.length ≤ 4) : ∀ (d i k : Nat), i + d = l.length → 6000000 + d < k → (∀ j, j < i → okP l j = true) →
  spec_Layout.l0 k l (outTo l i) (atTo l i : Int) (i : Int) = some (layV l)
 | 0, i, k, hi, hk, hj => by
  obtain ⟨k, rfl⟩ : ∃ m, k = m + 1 := ⟨k - 1, by omega⟩
  have e : i = l.length := by omega
  subst e
  rw [spec_Layout.l0, if_neg (by omega), layV_end l h4 hj]
  split <;> rfl
 | d + 1, i, k, hi, hk, hj => by
  obtain ⟨k, rfl⟩ : ∃ m, k = m + 1 := ⟨k - 1, by omega⟩
  have hm := List.getElem_mem (by omega : i < l.length)
  have hxi := hx _ hm
  have hat := atTo_le l hx i (by omega)
  have er := rdPart l i (by omega)
  have no : okP l i = false → layV l = ([], false) := layV_no l i (by omega)
  have e1 : spec_PartOk.f k (rd_T49 l (i : Int)).f0 (rd_T49 l (i : Int)).f1 (rd_T49 l (i : Int)).f2 = some (partB (rd_T49 l (i : Int)).f0 (rd_T49 l (i : Int)).f1 (rd_T49 l (i : Int)).f2) := by
   rw [er]; exact specPartOk_eq _ _ _ hxi.1 hxi.2.1 hxi.2.2.1 hxi.2.2.2 k (by omega)
  rw [spec_Layout.l0, if_pos (by omega), if_pos (by omega), e1, Option.bind_some]
  by_cases p : partB (rd_T49 l (i : Int)).f0 (rd_T49 l (i : Int)).f1 (rd_T49 l (i : Int)).f2 = true
  ·rw [if_pos p, specPartAt_eq l _ (by omega) k (by omega), Option.bind_some]
   by_cases q : partIdx (rd_T49 l (i : Int)).f0 l 0 = (i : Int)
   ·have ok : okP l i = true := by unfold okP; rw [p, decide_eq_true q]; rfl
    have hl2 : (rd_T49 l (i : Int)).f1.length ≤ 1048576 := by rw [er]; exact hxi.2.1
    rw [if_pos q, if_neg (by omega), if_pos (by rw [outTo_len]; omega), outTo_succ, wrap_succ (by omega), wrap_small (x := (atTo l i : Int) + _) (by omega) (by omega)]
    have := specLay_l l hx h4 d (i + 1) k (by omega) (by omega) (fun j hj' => by
     by_cases e : j = i
     ·subst e; exact ok
     ·exact hj j (by omega))
    rw [atTo, Int.natCast_add] at this
    exact this
   ·rw [if_neg q, no (by unfold okP; rw [decide_eq_false q, Bool.and_false])]
  ·rw [if_neg p, no (by unfold okP; rw [Bool.eq_false_iff.2 p, Bool.false_and])]
theorem specLayout_eq (l : List S49) (hx : partsIn l) (hl : l.length ≤ 1048576) (k : Nat) (hk : 6000010 < k) : spec_Layout.f k l = some (layV l) := by
 unfold spec_Layout.f
 by_cases c : l.length ≤ 4
 ·exact specLay_l l hx c l.length 0 k (by omega) (by omega) (fun j hj => by omega)
 ·have hv : layV l = ([], false) := by unfold layV layB; rw [decide_eq_false c, Bool.false_and]; rfl
  obtain ⟨k, rfl⟩ : ∃ m, k = m + 1 := ⟨k - 1, by omega⟩
  have hxi := hx _ (List.getElem_mem (by omega : 0 < l.length))
  have er := rdPart l 0 (by omega)
  have e1 : spec_PartOk.f k (rd_T49 l 0).f0 (rd_T49 l 0).f1 (rd_T49 l 0).f2 = some (partB (rd_T49 l 0).f0 (rd_T49 l 0).f1 (rd_T49 l 0).f2) := by
   have er' : rd_T49 l 0 = l[0] := er
   rw [er']; exact specPartOk_eq _ _ _ hxi.1 hxi.2.1 hxi.2.2.1 hxi.2.2.2 k (by omega)
  rw [spec_Layout.l0, if_pos (by omega), if_pos (by omega), e1, Option.bind_some, hv, specPartAt_eq l _ hl k (by omega)]
  split
  ·rw [Option.bind_some]
   split
   ·rw [if_pos (by omega)]
   ·rfl
  ·rfl
abbrev TP := S49
abbrev TI := S57
abbrev TR := S61
theorem partIdx_lt (a : ByteArray) : ∀ (l : List TP) (s : Nat), partIdx a l s < ((s + l.length : Nat) : Int)
 | [], s => by rw [partIdx]; omega
 | x :: r, s => by
  rw [partIdx]
  split
  ·simp only [List.length_cons]; omega
  ·have := partIdx_lt a r (s + 1); simp only [List.length_cons] at this ⊢; omega
theorem refIdx_lt (a : Int) : ∀ (l : List TR) (s : Nat), refIdx a l s < ((s + l.length : Nat) : Int)
 | [], s => by rw [refIdx]; omega
 | x :: r, s => by
  rw [refIdx]
  split
  ·simp only [List.length_cons]; omega
  ·have := refIdx_lt a r (s + 1); simp only [List.length_cons] at this ⊢; omega
theorem refIdx_at (a : Int) : ∀ (l : List TR) (s j : Nat), refIdx a l s = ((s + j : Nat) : Int) → ∃ h : j < l.length, (l[j]'h).f0 = a
 | [], s, j, h => by rw [refIdx] at h; omega
 | x :: r, s, j, h => by
  rw [refIdx] at h
  split at h
  ·rename_i q
   have : j = 0 := by omega
   subst this; exact ⟨by simp, q⟩
  ·have hge : ∀ (l : List TR) (s : Nat), refIdx a l s = -1 ∨ (s : Int) ≤ refIdx a l s := by
    intro l
    induction l with
    | nil => intro s; left; rw [refIdx]
    | cons y r ih =>
     intro s; rw [refIdx]; split
     ·right; omega
     ·rcases ih (s + 1) with q | q
      ·left; exact q
      ·right; omega
   have := hge r (s + 1)
   cases j with
   | zero => omega
   | succ j =>
    obtain ⟨h1, h2⟩ := refIdx_at a r (s + 1) j (by rw [h]; omega)
    exact ⟨by simpa using h1, by simpa using h2⟩
theorem rdRefL (l : List TR) (i : Nat) (h : i < l.length) : rd_T61 l (i : Int) = l[i] := by
 unfold rd_T61; simp [List.getD, h]
def codeI (x : TI) : Int := codeW x.f0 x.f1 x.f2 x.f3 x.f4
def toOf (t : List TP) (r : List TR) (j : Int) : Int := partIdx (rd_T61 r j).f1 t 0
def putN (x : TI) (n : Int) : TI := ⟨x.f0, x.f1, x.f2, x.f3, n⟩
def insAt (t : List TP) (o : List Int) (l : List TI) (r : List TR) (k : Nat) : TI := if 0 ≤ refIdx (k : Int) r 0 then putN (rd_T57 l (k : Int)) (rd o (toOf t r (refIdx (k : Int) r 0))) else rd_T57 l (k : Int)
def doneTo (t : List TP) (o : List Int) (l : List TI) (r : List TR) (j : Nat) : List TI := (List.range l.length).map fun (k : Nat) => if 0 ≤ refIdx (k : Int) r 0 ∧ refIdx (k : Int) r 0 < (j : Int) then insAt t o l r k else rd_T57 l (k : Int)
theorem doneTo_len (t : List TP) (o : List Int) (l : List TI) (r : List TR) (j : Nat) : (doneTo t o l r j).length = l.length := by simp [doneTo]
theorem doneTo_get (t : List TP) (o : List Int) (l : List TI) (r : List TR) (j k : Nat) (h : k < l.length) : (doneTo t o l r j)[k]'(by rw [doneTo_len]; exact h) = if 0 ≤ refIdx (k : Int) r 0 ∧ refIdx (k : Int) r 0 < (j : Int) then insAt t o l r k else rd_T57 l (k : Int) := by simp [doneTo]
theorem doneTo_0 (t : List TP) (o : List Int) (l : List TI) (r : List TR) : doneTo t o l r 0 = l := by
 refine List.ext_getElem (doneTo_len ..) (fun k h1 h2 => ?_)
 rw [doneTo_get t o l r 0 k h2, if_neg (by omega), rdIns' l k h2]
theorem doneTo_step (t : List TP) (o : List Int) (l : List TI) (r : List TR) (j a : Nat) (hj : j < r.length) (ha : (rd_T61 r (j : Int)).f0 = (a : Int)) (hl : a < l.length) (hf : refIdx (a : Int) r 0 = (j : Int)) :
  (doneTo t o l r j).set a (putN (rd_T57 (doneTo t o l r j) (a : Int)) (rd o (toOf t r (j : Int)))) = doneTo t o l r (j + 1) := by
 refine List.ext_getElem (by rw [List.length_set, doneTo_len, doneTo_len]) (fun k h1 h2 => ?_)
 rw [doneTo_len] at h2
 rw [List.getElem_set, doneTo_get t o l r (j + 1) k h2]
 by_cases e : a = k
 ·subst e
  rw [if_pos rfl, if_pos ⟨by omega, by omega⟩, rdIns' _ a (by rw [doneTo_len]; exact hl), doneTo_get t o l r j a hl, if_neg (by omega)]
  unfold insAt; rw [if_pos (by omega), hf]
 ·rw [if_neg e, doneTo_get t o l r j k h2]
  have hne : refIdx (k : Int) r 0 ≠ (j : Int) := fun q => by
   obtain ⟨h3, h4⟩ := refIdx_at (k : Int) r 0 j (by rw [q]; omega)
   rw [rdRefL r j hj] at ha
   rw [ha] at h4; omega
  by_cases c : 0 ≤ refIdx (k : Int) r 0 ∧ refIdx (k : Int) r 0 < (j : Int)
  ·rw [if_pos c, if_pos ⟨c.1, by omega⟩]
  ·rw [if_neg c, if_neg (fun q => c ⟨q.1, by omega⟩)]
theorem doneTo_all (t : List TP) (o : List Int) (l : List TI) (r : List TR) (k : Nat) (h : k < l.length) : (doneTo t o l r r.length)[k]'(by rw [doneTo_len]; exact h) = insAt t o l r k := by
 rw [doneTo_get t o l r _ k h]
 by_cases c : 0 ≤ refIdx (k : Int) r 0
 ·rw [if_pos ⟨c, by have := refIdx_lt (k : Int) r 0; omega⟩]
 ·rw [if_neg (fun q => c q.1)]; unfold insAt; rw [if_neg c]
def codes (t : List TP) (o : List Int) (l : List TI) (r : List TR) (k : Nat) : List Int := (List.range k).map fun (k : Nat) => codeI (insAt t o l r k)
theorem codes_len (t : List TP) (o : List Int) (l : List TI) (r : List TR) (k : Nat) : (codes t o l r k).length = k := by simp [codes]
theorem codes_succ (t : List TP) (o : List Int) (l : List TI) (r : List TR) (k : Nat) : codes t o l r (k + 1) = codes t o l r k ++ [codeI (insAt t o l r k)] := by unfold codes; rw [List.range_succ, List.map_append]; rfl
def refsOk (l : List TI) (r : List TR) : Prop := ∀ j, j < r.length → ∃ a : Nat, (rd_T61 r (j : Int)).f0 = (a : Int) ∧ a < l.length ∧ refIdx (a : Int) r 0 = (j : Int)
theorem refsOk_of {n : ByteArray} {l : List TI} {r : List TR} (h : partB n l r = true) : refsOk l r ∧ l.length ≤ 24 ∧ r.length ≤ 24 := by
 unfold partB at h
 rw [Bool.and_eq_true, Bool.and_eq_true, Bool.and_eq_true, Bool.and_eq_true, decide_eq_true_eq, decide_eq_true_eq] at h
 refine ⟨fun j hj => ?_, by omega, by omega⟩
 have q := ((refsB_iff l r).1 h.2.2.2.2).1 j hj
 unfold refCond at q
 rw [Bool.and_eq_true, Bool.and_eq_true, decide_eq_true_eq, decide_eq_true_eq] at q
 refine ⟨(rd_T61 r (j : Int)).f0.toNat, by omega, by omega, ?_⟩
 rw [Int.toNat_of_nonneg q.1.1]; exact q.2.1
def badP (t : List TP) (r : List TR) : Bool := (List.range r.length).any fun j => decide (toOf t r (j : Int) < 0)
theorem badP_no {t : List TP} {r : List TR} (h : badP t r = false) (j : Nat) (hj : j < r.length) : 0 ≤ toOf t r (j : Int) := by
 unfold badP at h
 rw [List.any_eq_false] at h
 have := h j (List.mem_range.2 hj)
 simpa using this
theorem impl_l1 (t : List TP) (o : List Int) (acc : List Int) (i : Nat) (l : List TI) (r : List TR) (ho : o.length = t.length) (hr : refsOk l r) (hl : l.length ≤ 24) (hR : r.length ≤ 24) (hb : badP t r = false) :
  ∀ (d j k : Nat), j + d = r.length → impl_Link.l1 (k + d + 1) t o acc (doneTo t o l r j) t (t.length : Int) (i : Int) r (r.length : Int) (j : Int) = impl_Link.l2 k t o acc t (t.length : Int) (i : Int) (doneTo t o l r r.length) (l.length : Int) 0
 | 0, j, k, hj => by
  have e : j = r.length := by omega
  subst e
  rw [show k + 0 + 1 = k + 1 from rfl, impl_Link.l1, if_neg (by omega), doneTo_len]
 | d + 1, j, k, hj => by
  have hjl : j < r.length := by omega
  obtain ⟨a, h1, h2, h3⟩ := hr j hjl
  have h4 := badP_no hb j hjl
  have h5 := partIdx_lt (rd_T61 r (j : Int)).f1 t 0
  have e2 : impl_PartAt.f t (rd_T61 r (j : Int)).f1 = some (toOf t r (j : Int)) := rfl
  have h5' : toOf t r (j : Int) < (t.length : Int) := by unfold toOf; omega
  have ih := impl_l1 t o acc i l r ho hr hl hR hb d (j + 1) k (by omega)
  have hs := doneTo_step t o l r j a hjl h1 h2 h3
  unfold putN at hs
  rw [show k + (d + 1) + 1 = (k + d + 1) + 1 by omega, impl_Link.l1, if_pos (by omega), if_pos (by omega), if_pos (by omega), e2, Option.bind_some, if_neg (by omega), if_pos h4, if_pos (by omega), h1, if_pos (by omega), if_pos (by rw [doneTo_len]; omega), Int.toNat_natCast, hs, wrap_succ (by omega)]
  exact ih
theorem impl_l1_bad (t : List TP) (o : List Int) (acc : List Int) (i : Nat) (l : List TI) (r : List TR) (ho : o.length = t.length) (hr : refsOk l r) (hl : l.length ≤ 24) (hR : r.length ≤ 24) :
  ∀ (d j k : Nat) (x : List TI), x.length = l.length → j + d = r.length → d < k → (∃ m, j ≤ m ∧ m < r.length ∧ toOf t r (m : Int) < 0) → impl_Link.l1 k t o acc x t (t.length : Int) (i : Int) r (r.length : Int) (j : Int) = some ([], false)
 | 0, j, k, x, hx, hj, hk, hb => by obtain ⟨m, _, _, _⟩ := hb; omega
 | d + 1, j, k, x, hx, hj, hk, hb => by
  obtain ⟨k, rfl⟩ : ∃ m, k = m + 1 := ⟨k - 1, by omega⟩
  obtain ⟨a, h1, h2, h3⟩ := hr j (by omega)
  have e2 : impl_PartAt.f t (rd_T61 r (j : Int)).f1 = some (toOf t r (j : Int)) := rfl
  have h5 := partIdx_lt (rd_T61 r (j : Int)).f1 t 0
  have h5' : toOf t r (j : Int) < (t.length : Int) := by unfold toOf; omega
  rw [impl_Link.l1, if_pos (by omega), if_pos (by omega), if_pos (by omega), e2, Option.bind_some]
  by_cases c : toOf t r (j : Int) < 0
  ·rw [if_pos c]
  ·rw [if_neg c, if_pos (by omega), if_pos (by omega), h1, if_pos (by omega), if_pos (by omega), wrap_succ (by omega)]
   refine impl_l1_bad t o acc i l r ho hr hl hR d (j + 1) k _ (by rw [List.length_set]; exact hx) (by omega) (by omega) ?_
   obtain ⟨m, m1, m2, m3⟩ := hb
   refine ⟨m, ?_, m2, m3⟩
   by_cases e : m = j
   ·subst e; exact absurd m3 c
   ·omega
theorem impl_l2 (t : List TP) (o : List Int) (acc : List Int) (i : Nat) (l : List TI) (r : List TR) (hl : l.length ≤ 24) (hi : i < 4) (ha : acc.length ≤ 1000) :
  ∀ (d m k : Nat), m + d = l.length → impl_Link.l2 (k + d + 1) t o (acc ++ codes t o l r m) t (t.length : Int) (i : Int) (doneTo t o l r r.length) (l.length : Int) (m : Int) = impl_Link.l0 k t o (acc ++ codes t o l r l.length) t (t.length : Int) ((i + 1 : Nat) : Int)
 | 0, m, k, hm => by
  have e : m = l.length := by omega
  subst e
  rw [show k + 0 + 1 = k + 1 from rfl, impl_Link.l2, if_neg (by omega), wrap_succ (by omega)]
 | d + 1, m, k, hm => by
  have hml : m < l.length := by omega
  have e : rd_T57 (doneTo t o l r r.length) (m : Int) = insAt t o l r m := by rw [rdIns' _ m (by rw [doneTo_len]; exact hml), doneTo_all t o l r m hml]
  rw [show k + (d + 1) + 1 = (k + d + 1) + 1 by omega, impl_Link.l2, if_pos (by omega), if_pos (by omega), if_pos (by rw [doneTo_len]; omega), e, implCode_eq, Option.bind_some]
  dsimp only
  rw [if_pos (by rw [List.length_append, codes_len]; omega), wrap_succ (by omega), List.append_assoc]
  have := impl_l2 t o acc i l r hl hi ha d (m + 1) k (by omega)
  rw [codes_succ] at this
  exact this
theorem spec_l1 (t : List TP) (o : List Int) (acc : List Int) (i : Nat) (hi : i < t.length) (hi4 : i < 4) (n : ByteArray) (l : List TI) (r : List TR) (hp : rd_T49 t (i : Int) = ⟨n, l, r⟩) (ho : o.length = t.length) (ht : t.length ≤ 4) (hl : l.length ≤ 24) (hR : r.length ≤ 24) (hb : badP t r = false) (ha : acc.length ≤ 1000) :
  ∀ (d m k : Nat), m + d = l.length → 2000000 < k → spec_Link.l1 (k + d + 1) t o true (acc ++ codes t o l r m) (i : Int) (m : Int) = spec_Link.l0 k t o true (acc ++ codes t o l r l.length) ((i + 1 : Nat) : Int)
 | 0, m, k, hm, hk => by
  have e : m = l.length := by omega
  subst e
  rw [show k + 0 + 1 = k + 1 from rfl, spec_Link.l1, hp]
  dsimp only
  rw [if_pos (by omega), if_pos (by omega), if_neg (by omega), wrap_succ (by omega)]
 | d + 1, m, k, hm, hk => by
  have hml : m < l.length := by omega
  have ih := spec_l1 t o acc i hi hi4 n l r hp ho ht hl hR hb ha d (m + 1) k (by omega) hk
  rw [codes_succ, ← List.append_assoc] at ih
  rw [show k + (d + 1) + 1 = (k + d + 1) + 1 by omega, spec_Link.l1, hp]
  dsimp only
  rw [if_pos (by omega), if_pos (by omega), if_pos (by omega), if_pos (by omega), l27Ref_eq n l r _ (by omega) _ (by omega), Option.bind_some]
  have hlt := refIdx_lt (m : Int) r 0
  by_cases c : refIdx (m : Int) r 0 ≥ 0
  ·obtain ⟨j, hj⟩ : ∃ j : Nat, refIdx (m : Int) r 0 = (j : Int) := ⟨_, (Int.toNat_of_nonneg c).symm⟩
   have h4 := badP_no hb j (by omega)
   have h5 := partIdx_lt (rd_T61 r (j : Int)).f1 t 0
   have h5' : toOf t r (j : Int) < (t.length : Int) := by unfold toOf; omega
   have e3 : spec_PartAt.f (k + d + 1) t (rd_T61 r (j : Int)).f1 = some (toOf t r (j : Int)) := specPartAt_eq t _ (by omega) _ (by omega)
   have e : codeI (insAt t o l r m) = codeW (rd_T57 l (m : Int)).f0 (rd_T57 l (m : Int)).f1 (rd_T57 l (m : Int)).f2 (rd_T57 l (m : Int)).f3 (rd o (toOf t r (j : Int))) := by
    unfold insAt; rw [hj, if_pos (by omega)]; rfl
   rw [if_pos c, if_pos c, if_pos (by omega), hj, e3, Option.bind_some, if_neg (by omega), if_pos h4, if_pos (by omega), specCode_eq, Option.bind_some]
   dsimp only
   rw [if_pos (by rw [List.length_append, codes_len]; omega), wrap_succ (by omega), ← e]
   exact ih
  ·have e : codeI (insAt t o l r m) = codeW (rd_T57 l (m : Int)).f0 (rd_T57 l (m : Int)).f1 (rd_T57 l (m : Int)).f2 (rd_T57 l (m : Int)).f3 (rd_T57 l (m : Int)).f4 := by
    unfold insAt; rw [if_neg c]; rfl
   rw [if_neg c, specCode_eq, Option.bind_some]
   dsimp only
   rw [if_pos (by rw [List.length_append, codes_len]; omega), wrap_succ (by omega), ← e]
   exact ih
theorem spec_l1_bad (t : List TP) (o : List Int) (i : Nat) (hi : i < t.length) (hi4 : i < 4) (n : ByteArray) (l : List TI) (r : List TR) (hp : rd_T49 t (i : Int) = ⟨n, l, r⟩) (ho : o.length = t.length) (ht : t.length ≤ 4) (hl : l.length ≤ 24) (hR : r.length ≤ 24) :
  ∀ (d m k : Nat) (acc : List Int), acc.length ≤ 1000 + m → m + d = l.length → 2000000 + d < k → (∃ q : Nat, m ≤ q ∧ q < l.length ∧ 0 ≤ refIdx (q : Int) r 0 ∧ toOf t r (refIdx (q : Int) r 0) < 0) → spec_Link.l1 k t o true acc (i : Int) (m : Int) = some ([], false)
 | 0, m, k, acc, ha, hm, hk, hb => by obtain ⟨q, _, _, _⟩ := hb; omega
 | d + 1, m, k, acc, ha, hm, hk, hb => by
  obtain ⟨k, rfl⟩ : ∃ m, k = m + 1 := ⟨k - 1, by omega⟩
  have next : (refIdx (m : Int) r 0 ≥ 0 → ¬ toOf t r (refIdx (m : Int) r 0) < 0) → ∃ q : Nat, m + 1 ≤ q ∧ q < l.length ∧ 0 ≤ refIdx (q : Int) r 0 ∧ toOf t r (refIdx (q : Int) r 0) < 0 := fun h => by
   obtain ⟨q, q1, q2, q3, q4⟩ := hb
   refine ⟨q, ?_, q2, q3, q4⟩
   by_cases e : q = m
   ·subst e; exact absurd q4 (h q3)
   ·omega
  rw [spec_Link.l1, hp]
  dsimp only
  rw [if_pos (by omega), if_pos (by omega), if_pos (by omega), if_pos (by omega), l27Ref_eq n l r _ (by omega) _ (by omega), Option.bind_some]
  have hlt := refIdx_lt (m : Int) r 0
  by_cases c : refIdx (m : Int) r 0 ≥ 0
  ·have h5 := partIdx_lt (rd_T61 r (refIdx (m : Int) r 0)).f1 t 0
   have h5' : toOf t r (refIdx (m : Int) r 0) < (t.length : Int) := by unfold toOf; omega
   have e3 : spec_PartAt.f k t (rd_T61 r (refIdx (m : Int) r 0)).f1 = some (toOf t r (refIdx (m : Int) r 0)) := specPartAt_eq t _ (by omega) _ (by omega)
   rw [if_pos c, if_pos c, if_pos (by omega), e3, Option.bind_some]
   by_cases b : toOf t r (refIdx (m : Int) r 0) < 0
   ·rw [if_pos b]
   ·rw [if_neg b, if_pos (by omega), if_pos (by omega), specCode_eq, Option.bind_some]
    dsimp only
    rw [if_pos (by omega), wrap_succ (by omega)]
    exact spec_l1_bad t o i hi hi4 n l r hp ho ht hl hR d (m + 1) k _ (by rw [List.length_append]; simp; omega) (by omega) (by omega) (next (fun _ => b))
  ·rw [if_neg c, specCode_eq, Option.bind_some]
   dsimp only
   rw [if_pos (by omega), wrap_succ (by omega)]
   exact spec_l1_bad t o i hi hi4 n l r hp ho ht hl hR d (m + 1) k _ (by rw [List.length_append]; simp; omega) (by omega) (by omega) (next (fun h => absurd h c))
def accTo (t : List TP) (o : List Int) : Nat → List Int
 | 0 => []
 | i + 1 => accTo t o i ++ codes t o (rd_T49 t (i : Int)).f1 (rd_T49 t (i : Int)).f2 (rd_T49 t (i : Int)).f1.length
theorem accTo_len (t : List TP) (o : List Int) : ∀ i, (accTo t o i).length = atTo t i
 | 0 => rfl
 | i + 1 => by rw [accTo, List.length_append, codes_len, accTo_len t o i, atTo]
def badI (t : List TP) (i : Nat) : Bool := badP t (rd_T49 t (i : Int)).f2
def linkE (t : List TP) (o : List Int) : List Int × Bool := if (List.range t.length).any (badI t) = true then ([], false) else (accTo t o t.length ++ List.replicate (24 - atTo t t.length) 0, true)
theorem linkE_bad (t : List TP) (o : List Int) (i : Nat) (hi : i < t.length) (h : badI t i = true) : linkE t o = ([], false) := by
 unfold linkE; rw [if_pos]; rw [List.any_eq_true]; exact ⟨i, List.mem_range.2 hi, h⟩
theorem linkE_end (t : List TP) (o : List Int) (h : ∀ j, j < t.length → badI t j = false) : linkE t o = (accTo t o t.length ++ List.replicate (24 - atTo t t.length) 0, true) := by
 unfold linkE; rw [if_neg]; rw [Bool.not_eq_true, List.any_eq_false]
 intro j hj; rw [h j (List.mem_range.1 hj)]; simp
theorem badP_ex {t : List TP} {r : List TR} (h : badP t r = true) : ∃ m : Nat, m < r.length ∧ toOf t r (m : Int) < 0 := by
 unfold badP at h
 rw [List.any_eq_true] at h
 obtain ⟨m, h1, h2⟩ := h
 exact ⟨m, List.mem_range.1 h1, of_decide_eq_true h2⟩
theorem layB_parts {t : List TP} (h : layB t = true) : t.length ≤ 4 ∧ (∀ i, i < t.length → refsOk (rd_T49 t (i : Int)).f1 (rd_T49 t (i : Int)).f2 ∧ (rd_T49 t (i : Int)).f1.length ≤ 24 ∧ (rd_T49 t (i : Int)).f2.length ≤ 24) ∧ atTo t t.length ≤ 24 := by
 unfold layB at h
 rw [Bool.and_eq_true, Bool.and_eq_true, List.all_eq_true, decide_eq_true_eq, decide_eq_true_eq] at h
 refine ⟨h.1, fun i hi => ?_, h.2.2⟩
 have := h.2.1 i (List.mem_range.2 hi)
 unfold okP at this
 rw [Bool.and_eq_true] at this
 exact refsOk_of this.1
theorem atTo_mono (t : List TP) : ∀ i j, i ≤ j → atTo t i ≤ atTo t j := by
 intro i j h
 induction j with
 | zero =>
  have : i = 0 := by omega
  subst this; exact Nat.le_refl _
 | succ j ih =>
  by_cases e : i = j + 1
  ·subst e; exact Nat.le_refl _
  ·have := ih (by omega); rw [atTo]; omega
theorem impl_l0 (t : List TP) (o : List Int) (ho : o.length = t.length) (hL : layB t = true) : ∀ (d i k : Nat), i + d = t.length → 100 * d + 10 < k → (∀ j, j < i → badI t j = false) →
  impl_Link.l0 k t o (accTo t o i) t (t.length : Int) (i : Int) = some (linkE t o)
 | 0, i, k, hi, hk, hb => by
  obtain ⟨k, rfl⟩ : ∃ m, k = m + 1 := ⟨k - 1, by omega⟩
  have e : i = t.length := by omega
  subst e
  obtain ⟨h1, h2, h3⟩ := layB_parts hL
  have ha := accTo_len t o t.length
  rw [impl_Link.l0, if_neg (by omega), wrap_small (by omega) (by omega), if_pos (by omega), if_pos (by omega), linkE_end t o hb, ha, show (24 - (atTo t t.length : Int)).toNat = 24 - atTo t t.length by omega]
 | d + 1, i, k, hi, hk, hb => by
  obtain ⟨h1, h2, h3⟩ := layB_parts hL
  obtain ⟨r1, r2, r3⟩ := h2 i (by omega)
  have ha := accTo_len t o i
  have hm := atTo_mono t i t.length (by omega)
  have hc : ∀ x : List TI, x.length ≤ 24 → impl_Ins_54.f x = some x := fun x hx => by unfold impl_Ins_54.f; rw [if_pos (by omega)]
  by_cases b : badI t i = true
  ·obtain ⟨k, rfl⟩ : ∃ m, k = m + 1 := ⟨k - 1, by omega⟩
   rw [impl_Link.l0, if_pos (by omega), if_pos (by omega), if_pos (by omega), hc _ r2, Option.bind_some, linkE_bad t o i (by omega) b]
   obtain ⟨m, m1, m2⟩ := badP_ex b
   exact impl_l1_bad t o _ i _ _ ho r1 r2 r3 _ 0 k _ rfl (Nat.zero_add _) (by omega) ⟨m, Nat.zero_le _, m1, m2⟩
  ·have b' : badI t i = false := by simpa using b
   obtain ⟨k, rfl⟩ : ∃ m, k = ((m + (rd_T49 t (i : Int)).f1.length + 1) + (rd_T49 t (i : Int)).f2.length + 1) + 1 := ⟨k - (rd_T49 t (i : Int)).f1.length - (rd_T49 t (i : Int)).f2.length - 3, by omega⟩
   rw [impl_Link.l0, if_pos (by omega), if_pos (by omega), if_pos (by omega), hc _ r2, Option.bind_some]
   have x1 := impl_l1 t o (accTo t o i) i _ _ ho r1 r2 r3 b' (rd_T49 t (i : Int)).f2.length 0 (k + (rd_T49 t (i : Int)).f1.length + 1) (Nat.zero_add _)
   rw [doneTo_0] at x1
   have x2 := impl_l2 t o (accTo t o i) i (rd_T49 t (i : Int)).f1 (rd_T49 t (i : Int)).f2 r2 (by omega) (by omega) (rd_T49 t (i : Int)).f1.length 0 k (Nat.zero_add _)
   have e0 : accTo t o i ++ codes t o (rd_T49 t (i : Int)).f1 (rd_T49 t (i : Int)).f2 0 = accTo t o i := by simp [codes]
   rw [e0] at x2
   refine Eq.trans x1 (Eq.trans x2 ?_)
   have := impl_l0 t o ho hL d (i + 1) k (by omega) (by omega) (fun j hj => by
    by_cases e : j = i
    ·subst e; exact b'
    ·exact hb j (by omega))
   rw [accTo] at this
   exact this
theorem spec_pad : ∀ (d : Nat) (x : List Int) (k : Nat), x.length + d = 24 → d < k → spec_Link.l2 k x = some (x ++ List.replicate d 0, true)
 | 0, x, k, hx, hk => by
  obtain ⟨k, rfl⟩ : ∃ m, k = m + 1 := ⟨k - 1, by omega⟩
  rw [spec_Link.l2, if_neg (by omega)]; simp
 | d + 1, x, k, hx, hk => by
  obtain ⟨k, rfl⟩ : ∃ m, k = m + 1 := ⟨k - 1, by omega⟩
  rw [spec_Link.l2, if_pos (by omega), if_pos (by omega), spec_pad d (x ++ [0]) k (by rw [List.length_append]; simp; omega) (by omega), List.append_assoc]; rfl
theorem spec_l0 (t : List TP) (o : List Int) (ho : o.length = t.length) (hL : layB t = true) : ∀ (d i k : Nat), i + d = t.length → 3000000 + 100 * d < k → (∀ j, j < i → badI t j = false) →
  spec_Link.l0 k t o true (accTo t o i) (i : Int) = some (linkE t o)
 | 0, i, k, hi, hk, hb => by
  obtain ⟨k, rfl⟩ : ∃ m, k = m + 2 := ⟨k - 2, by omega⟩
  have e : i = t.length := by omega
  subst e
  obtain ⟨h1, h2, h3⟩ := layB_parts hL
  have ha := accTo_len t o t.length
  rw [spec_Link.l0, if_neg (by omega), spec_Link.j1, if_neg (by simp), if_pos rfl, spec_pad (24 - atTo t t.length) _ k (by omega) (by omega), linkE_end t o hb]
 | d + 1, i, k, hi, hk, hb => by
  obtain ⟨h1, h2, h3⟩ := layB_parts hL
  obtain ⟨r1, r2, r3⟩ := h2 i (by omega)
  have ha := accTo_len t o i
  have hm := atTo_mono t i t.length (by omega)
  by_cases b : badI t i = true
  ·obtain ⟨k, rfl⟩ : ∃ m, k = m + 2 := ⟨k - 2, by omega⟩
   rw [spec_Link.l0, if_pos (by omega), spec_Link.j1, if_pos rfl, linkE_bad t o i (by omega) b]
   obtain ⟨m, m1, m2⟩ := badP_ex b
   obtain ⟨a, a1, a2, a3⟩ := r1 m m1
   exact spec_l1_bad t o i (by omega) (by omega) (rd_T49 t (i : Int)).f0 (rd_T49 t (i : Int)).f1 (rd_T49 t (i : Int)).f2 rfl ho h1 r2 r3 _ 0 k _ (by omega) (Nat.zero_add _) (by omega) ⟨a, Nat.zero_le _, a2, by omega, by rw [a3]; exact m2⟩
  ·have b' : badI t i = false := by simpa using b
   obtain ⟨k, rfl⟩ : ∃ m, k = (m + (rd_T49 t (i : Int)).f1.length + 1) + 1 + 1 := ⟨k - (rd_T49 t (i : Int)).f1.length - 3, by omega⟩
   rw [spec_Link.l0, if_pos (by omega), spec_Link.j1, if_pos rfl]
   have x1 := spec_l1 t o (accTo t o i) i (by omega) (by omega) (rd_T49 t (i : Int)).f0 (rd_T49 t (i : Int)).f1 (rd_T49 t (i : Int)).f2 rfl ho h1 r2 r3 b' (by omega) (rd_T49 t (i : Int)).f1.length 0 k (Nat.zero_add _) (by omega)
   have e0 : accTo t o i ++ codes t o (rd_T49 t (i : Int)).f1 (rd_T49 t (i : Int)).f2 0 = accTo t o i := by simp [codes]
   rw [e0] at x1
   refine Eq.trans x1 ?_
   have := spec_l0 t o ho hL d (i + 1) k (by omega) (by omega) (fun j hj => by
    by_cases e : j = i
    ·subst e; exact b'
    ·exact hb j (by omega))
   rw [accTo] at this
   exact this
def linkV (t : List TP) : List Int × Bool := if layB t = true then linkE t (outTo t t.length) else ([], false)
theorem implLink_eq (t : List TP) (hX : partsIn t) (k : Nat) (hk : 7000000 < k) : impl_Link.f k t = some (linkV t) := by
 unfold impl_Link.f linkV
 rw [implLayout_eq t hX k (by omega), Option.bind_some]
 unfold layV
 by_cases h : layB t = true
 ·have h4 := (layB_parts h).1
  rw [if_pos h, if_pos h, if_pos rfl]
  exact impl_l0 t _ (outTo_len t _) h t.length 0 k (Nat.zero_add _) (by omega) (fun j hj => by omega)
 ·rw [if_neg h, if_neg h]; rfl
theorem specLink_eq (t : List TP) (hX : partsIn t) (hl : t.length ≤ 1048576) (k : Nat) (hk : 7000000 < k) : spec_Link.f k t = some (linkV t) := by
 unfold spec_Link.f linkV
 rw [specLayout_eq t hX hl k (by omega), Option.bind_some]
 unfold layV
 by_cases h : layB t = true
 ·have h4 := (layB_parts h).1
  rw [if_pos h, if_pos h]
  exact spec_l0 t _ (outTo_len t _) h t.length 0 k (Nat.zero_add _) (by omega) (fun j hj => by omega)
 ·obtain ⟨k, rfl⟩ : ∃ m, k = m + 2 := ⟨k - 2, by omega⟩
  rw [if_neg h, if_neg h]
  dsimp only
  rw [spec_Link.l0]
  split
  ·rw [spec_Link.j1, if_neg (by simp), if_neg (by simp)]
  ·rw [spec_Link.j1, if_neg (by simp), if_neg (by simp)]
theorem l1Pick_ex (c : List Int) (i s : Int) (h : curOk c i) (l : List ByteArray) (h0 : 0 < l.length) (h1 : l.length ≤ 1000) : ∃ v i' s', spec_l1Pick.f c i s l = some (v, i', s') ∧ v ∈ l ∧ curOk c i' := by
 unfold spec_l1Pick.f
 obtain ⟨v, i1, s1, e, p, q, hc⟩ := l1Below_ex c i s h (l.length : Int) (by omega) (by omega)
 rw [e, Option.bind_some, if_pos p, if_pos q]
 refine ⟨_, _, _, rfl, ?_, hc⟩
 obtain ⟨j, rfl⟩ : ∃ j : Nat, v = (j : Int) := ⟨v.toNat, by omega⟩
 have : rdOf ByteArray.empty l (j : Int) = l[j] := by unfold rdOf; simp [List.getD, show j < l.length by omega]
 rw [this]; exact List.getElem_mem _
theorem drawOne_ex (c : List Int) (hc : c.length ≤ 1048576) (k : Nat) (hk : 5000 < k) : ∃ o r a b n, spec_l8DrawOne.f k c = some (o, r, a, b, n) := by
 unfold spec_l8DrawOne.f
 obtain ⟨i0, s0, e0, c0⟩ := l1New_ex c hc k (by omega)
 obtain ⟨o, r, a, b, n, i1, s1, e1, c1⟩ := drawIns_ex c i0 s0 c0 k (by omega)
 obtain ⟨v, i2, s2, e2, _, _, c2⟩ := l1Below_ex c i1 s1 c1 8 (by omega) (by omega)
 obtain ⟨v3, i3, s3, e3, _, _, c3⟩ := l1Below_ex c i2 s2 c2 13 (by omega) (by omega)
 obtain ⟨v4, i4, s4, e4, _, c4⟩ := l1PickInt_ex c i2 s2 c2 [(-1), 3, 4] (by simp) (by simp)
 obtain ⟨v5, i5, s5, e5, _, c5⟩ := l1PickInt_ex c i2 s2 c2 [(-1), 63, 64] (by simp) (by simp)
 simp only [e0, e1, e2, e3, e4, e5, Option.bind_some]
 repeat' split
 all_goals exact ⟨_, _, _, _, _, rfl⟩
def smallPart (nm : ByteArray) (L : List S57) (R : List S61) : Prop := nm.size ≤ 1000 ∧ L.length ≤ 1000 ∧ R.length ≤ 1000 ∧ ∀ y ∈ R, y.f1.size ≤ 1000
theorem drawPart_l0 (c : List Int) (nm : ByteArray) (hn : nm.size ≤ 1000) : ∀ (d j : Nat) (L : List S57) (R : List S61) (i s : Int) (k : Nat), curOk c i → L.length = j → R.length ≤ j → (∀ y ∈ R, y.f1.size ≤ 1000) → j + d = 5 → 6000 + d < k →
  ∃ nm' L' R' i' s', spec_l27DrawPart.l0 k (j : Int) c i s nm L R = some (nm', L', R', i', s') ∧ smallPart nm' L' R' ∧ curOk c i'
 | d, j, L, R, i, s, k, h, hL, hR, hy, hj, hk => by
  obtain ⟨k, rfl⟩ : ∃ q, k = q + 1 := ⟨k - 1, by omega⟩
  obtain ⟨v0, i0, s0, e0, p0, q0, c0⟩ := l1Below_ex c i s h 5 (by omega) (by omega)
  simp only [spec_l27DrawPart.l0]
  rw [e0, Option.bind_some]
  dsimp only
  rw [wrap_small (x := 1 + v0) (by omega) (by omega)]
  by_cases hc : (j : Int) < 1 + v0
  ·rw [if_pos hc]
   match d, hj, hk with
   | 0, hj, _ => omega
   | d + 1, hj, hk =>
    obtain ⟨o, r, a, b, n, i1, s1, e1, c1⟩ := drawIns_ex c i0 s0 c0 k (by omega)
    rw [e1, Option.bind_some]
    dsimp only
    rw [if_pos (by omega), Option.bind_some, wrap_succ (by omega)]
    have hg : ∃ g, spec_l27Goes.f o r a b n = some g := by unfold spec_l27Goes.f; repeat' split <;> exact ⟨_, rfl⟩
    obtain ⟨g, eg⟩ := hg
    rw [eg, Option.bind_some]
    have hL' : (L ++ [(⟨o, r, a, b, n⟩ : S57)]).length = j + 1 := by rw [List.length_append, hL]; rfl
    by_cases cg : g = true
    ·rw [if_pos cg]
     obtain ⟨on, i2, s2, e2, c2⟩ := l1Once_ex c i1 s1 c1 2 (by omega) (by omega)
     rw [e2, Option.bind_some]
     dsimp only
     by_cases co : on = true
     ·rw [if_pos co]
      obtain ⟨pn, i3, s3, e3, m3, c3⟩ := l1Pick_ex c i2 s2 c2 ([(⟨#[109, 97, 105, 110]⟩ : ByteArray), (⟨#[108, 111, 111, 112]⟩ : ByteArray), (⟨#[101, 110, 100]⟩ : ByteArray)] : List ByteArray) (by simp) (by simp)
      rw [e3, Option.bind_some]
      dsimp only
      rw [if_pos (by omega)]
      refine drawPart_l0 c nm hn d (j + 1) _ _ i3 s3 k c3 hL' (by rw [List.length_append, List.length_singleton]; omega) (fun y hy' => ?_) (by omega) (by omega)
      rcases List.mem_append.1 hy' with h1 | h1
      ·exact hy y h1
      ·rw [List.mem_singleton] at h1; subst h1
       simp only [List.mem_cons, List.mem_nil_iff, or_false, List.not_mem_nil] at m3
       rcases m3 with rfl | rfl | rfl <;> (dsimp only; decide)
     ·rw [if_neg co]
      exact drawPart_l0 c nm hn d (j + 1) _ _ i2 s2 k c2 hL' (by omega) hy (by omega) (by omega)
    ·rw [if_neg cg]
     exact drawPart_l0 c nm hn d (j + 1) _ _ i1 s1 k c1 hL' (by omega) hy (by omega) (by omega)
  ·rw [if_neg hc]
   obtain ⟨v1, i1, s1, e1, p1, q1, c1⟩ := l1Below_ex c i0 s0 c0 14 (by omega) (by omega)
   rw [e1, Option.bind_some]
   dsimp only
   by_cases h0 : v1 = 0
   ·obtain ⟨pn, i3, s3, e3, m3, c3⟩ := l1Pick_ex c i1 s1 c1 ([(⟨#[]⟩ : ByteArray), (⟨#[97, 98, 99, 100, 101, 102, 103, 104, 105]⟩ : ByteArray), (⟨#[97, 49]⟩ : ByteArray)] : List ByteArray) (by simp) (by simp)
    rw [if_pos h0, e3, Option.bind_some]
    refine ⟨_, _, _, _, _, rfl, ⟨?_, by omega, by omega, hy⟩, c3⟩
    simp only [List.mem_cons, List.mem_nil_iff, or_false, List.not_mem_nil] at m3
    rcases m3 with rfl | rfl | rfl <;> (dsimp only; decide)
   ·rw [if_neg h0]
    by_cases h1 : v1 = 1
    ·obtain ⟨v2, i2, s2, e2, p2, q2, c2⟩ := l1Below_ex c i1 s1 c1 4 (by omega) (by omega)
     rw [if_pos h1, e2, Option.bind_some]
     dsimp only
     rw [if_pos (by omega)]
     refine ⟨_, _, _, _, _, rfl, ⟨hn, by omega, by rw [List.length_append, List.length_singleton]; omega, fun y hy' => ?_⟩, c2⟩
     rcases List.mem_append.1 hy' with h1 | h1
     ·exact hy y h1
     ·rw [List.mem_singleton] at h1; subst h1; dsimp only; decide
    ·rw [if_neg h1]
     by_cases h2 : v1 = 2
     ·obtain ⟨v2, i2, s2, e2, p2, q2, c2⟩ := l1Below_ex c i1 s1 c1 256 (by omega) (by omega)
      obtain ⟨v3, i3, s3, e3, p3, q3, c3⟩ := l1Below_ex c i2 s2 c2 256 (by omega) (by omega)
      obtain ⟨o, r, a, b, n, e4⟩ := drawOne_ex [v2 % 256, v3 % 256] (by simp) k (by omega)
      rw [if_pos h2, e2, Option.bind_some]
      dsimp only
      rw [e3, Option.bind_some]
      dsimp only
      rw [e4, Option.bind_some, if_pos (by omega)]
      exact ⟨_, _, _, _, _, rfl, ⟨hn, by rw [List.length_set]; omega, by omega, hy⟩, c3⟩
     ·rw [if_neg h2]
      exact ⟨_, _, _, _, _, rfl, ⟨hn, by omega, by omega, hy⟩, c1⟩
theorem drawPart_ex (c : List Int) (i s : Int) (h : curOk c i) (k : Nat) (hk : 6010 < k) : ∃ nm L R i' s', spec_l27DrawPart.f k c i s = some (nm, L, R, i', s') ∧ smallPart nm L R ∧ curOk c i' := by
 unfold spec_l27DrawPart.f
 obtain ⟨pn, i3, s3, e3, m3, c3⟩ := l1Pick_ex c i s h ([(⟨#[109, 97, 105, 110]⟩ : ByteArray), (⟨#[108, 111, 111, 112]⟩ : ByteArray), (⟨#[101, 110, 100]⟩ : ByteArray), (⟨#[103, 101, 116]⟩ : ByteArray)] : List ByteArray) (by simp) (by simp)
 rw [e3, Option.bind_some]
 refine drawPart_l0 c pn ?_ 5 0 [] [] i3 s3 k c3 rfl (by simp) (by simp) (by omega) (by omega)
 simp only [List.mem_cons, List.mem_nil_iff, or_false, List.not_mem_nil] at m3
 rcases m3 with rfl | rfl | rfl | rfl <;> decide
def smallParts (l : List S49) : Prop := l.length ≤ 4 ∧ ∀ x ∈ l, smallPart x.f0 x.f1 x.f2
theorem drawList_l0 (c : List Int) (N : List ByteArray) (hN : N.length = 5) (hN2 : ∀ x ∈ N, x.size ≤ 1000) : ∀ (d j : Nat) (l : List S49) (i s : Int) (k : Nat), curOk c i → l.length = j → (∀ x ∈ l, smallPart x.f0 x.f1 x.f2) → j + d = 4 → 7000 + d < k →
  ∃ l' i' s', spec_l27DrawList.l0 k l N (j : Int) c i s = some (l', i', s') ∧ smallParts l' ∧ curOk c i'
 | d, j, l, i, s, k, h, hl, hx, hj, hk => by
  obtain ⟨k, rfl⟩ : ∃ q, k = q + 1 := ⟨k - 1, by omega⟩
  obtain ⟨v0, i0, s0, e0, p0, q0, c0⟩ := l1Below_ex c i s h 5 (by omega) (by omega)
  simp only [spec_l27DrawList.l0]
  rw [e0, Option.bind_some]
  dsimp only
  by_cases hc : (j : Int) < v0
  ·rw [if_pos hc]
   match d, hj, hk with
   | 0, hj, _ => omega
   | d + 1, hj, hk =>
    obtain ⟨nm, L, R, i1, s1, e1, hs, c1⟩ := drawPart_ex c i0 s0 c0 k (by omega)
    obtain ⟨on, i2, s2, e2, c2⟩ := l1Once_ex c i1 s1 c1 8 (by omega) (by omega)
    rw [e1, Option.bind_some]
    dsimp only
    rw [e2, Option.bind_some]
    dsimp only
    rw [wrap_succ (by omega)]
    have more : ∀ z : S49, smallPart z.f0 z.f1 z.f2 → ∃ l' i' s', spec_l27DrawList.l0 k (l ++ [z]) N ((j + 1 : Nat) : Int) c i2 s2 = some (l', i', s') ∧ smallParts l' ∧ curOk c i' := fun z hz =>
     drawList_l0 c N hN hN2 d (j + 1) _ i2 s2 k c2 (by rw [List.length_append, hl]; rfl) (fun x hx' => by
      rcases List.mem_append.1 hx' with h1 | h1
      ·exact hx x h1
      ·rw [List.mem_singleton] at h1; subst h1; exact hz) (by omega) (by omega)
    by_cases co : on = true
    ·rw [if_pos co, if_pos (by omega)]
     exact more _ hs
    ·rw [if_neg co, if_pos (by omega), if_pos (by omega), if_pos (by omega)]
     refine more _ ⟨?_, hs.2⟩
     have : rdOf ByteArray.empty N (j : Int) = N[j] := by unfold rdOf; simp [List.getD, show j < N.length by omega]
     dsimp only
     rw [this]; exact hN2 _ (List.getElem_mem _)
  ·rw [if_neg hc]
   exact ⟨_, _, _, rfl, ⟨by omega, hx⟩, c0⟩
theorem drawList_ex (c : List Int) (i s : Int) (h : curOk c i) (k : Nat) (hk : 7010 < k) : ∃ l i' s', spec_l27DrawList.f k c i s = some (l, i', s') ∧ smallParts l ∧ curOk c i' := by
 unfold spec_l27DrawList.f
 refine drawList_l0 c _ rfl ?_ 4 0 [] i s k h rfl (by simp) (by omega) (by omega)
 intro x hx
 simp only [List.mem_cons, List.mem_nil_iff, or_false, List.not_mem_nil] at hx
 rcases hx with rfl | rfl | rfl | rfl | rfl <;> decide
theorem accTo_get (t : List TP) (o : List Int) (i k : Nat) (hk : k < (rd_T49 t (i : Int)).f1.length) : ∀ n, i < n → ∃ h : atTo t i + k < (accTo t o n).length, (accTo t o n)[atTo t i + k]'h = codeI (insAt t o (rd_T49 t (i : Int)).f1 (rd_T49 t (i : Int)).f2 k)
 | 0, h => by omega
 | n + 1, h => by
  have hl := accTo_len t o n
  by_cases c : i < n
  ·obtain ⟨h1, h2⟩ := accTo_get t o i k hk n c
   have h3 : atTo t i + k < (accTo t o (n + 1)).length := by rw [accTo, List.length_append]; omega
   refine ⟨h3, ?_⟩
   have e : (accTo t o (n + 1))[atTo t i + k]'h3 = (accTo t o n)[atTo t i + k]'h1 := by
    simp only [accTo]
    rw [List.getElem_append_left h1]
   rw [e, h2]
  ·obtain rfl : i = n := by omega
   have h3 : atTo t i + k < (accTo t o (i + 1)).length := by rw [accTo_len, atTo]; omega
   refine ⟨h3, ?_⟩
   simp only [accTo]
   rw [List.getElem_append_right (by omega)]
   simp only [hl, Nat.add_sub_cancel_left, codes, List.getElem_map, List.getElem_range]
theorem decode_code (x : TI) (h : insB x = true) : decodeV (codeI x) = (x.f0, x.f1, x.f2, x.f3, x.f4, true) := by
 have hb := insOkB_bounds h
 have hi : insOkB x.f0 x.f1 x.f2 x.f3 x.f4 = true := h
 unfold codeI codeW
 rw [if_pos hi]
 have e0 : (x.f0 + 16 * x.f1 + 64 * x.f2 + 256 * x.f3 + 1024 * x.f4) % 16 = x.f0 := by omega
 have e1 : (x.f0 + 16 * x.f1 + 64 * x.f2 + 256 * x.f3 + 1024 * x.f4) / 16 % 4 = x.f1 := by omega
 have e2 : (x.f0 + 16 * x.f1 + 64 * x.f2 + 256 * x.f3 + 1024 * x.f4) / 64 % 4 = x.f2 := by omega
 have e3 : (x.f0 + 16 * x.f1 + 64 * x.f2 + 256 * x.f3 + 1024 * x.f4) / 256 % 4 = x.f3 := by omega
 have e4 : (x.f0 + 16 * x.f1 + 64 * x.f2 + 256 * x.f3 + 1024 * x.f4) / 1024 = x.f4 := by omega
 unfold decodeV decodeB
 rw [e0, e1, e2, e3, e4, hi, decide_eq_true (by omega)]; rfl
theorem put_ok (x : TI) (n : Int) (h : insB x = true) (g : goesB x = true) (hn : 0 ≤ n ∧ n ≤ 63) : insB (putN x n) = true := by
 have hb := insOkB_bounds h
 unfold insB at h ⊢
 unfold putN
 dsimp only
 unfold goesB at g
 rcases of_decide_eq_true g with g | g
 ·rw [g] at h ⊢
  unfold insOkB at h ⊢
  simp at h ⊢; omega
 ·rw [g] at h ⊢
  unfold insOkB at h ⊢
  simp at h ⊢; omega
structure Lk (t : List TP) : Prop where
 four : t.length ≤ 4
 part : ∀ i, i < t.length → partB (rd_T49 t (i : Int)).f0 (rd_T49 t (i : Int)).f1 (rd_T49 t (i : Int)).f2 = true
 all : atTo t t.length ≤ 24
 bad : ∀ i, i < t.length → badI t i = false
theorem rdOut (t : List TP) (p : Int) (h0 : 0 ≤ p) (h1 : p < (t.length : Int)) : rd (outTo t t.length) p = (atTo t p.toNat : Int) := by
 obtain ⟨j, rfl⟩ := Int.eq_ofNat_of_zero_le h0
 rw [rd_nat _ j (by rw [outTo_len]; omega)]; simp [outTo]
theorem insAt_ok (t : List TP) (H : Lk t) (i k : Nat) (hi : i < t.length) (hk : k < (rd_T49 t (i : Int)).f1.length) : insB (insAt t (outTo t t.length) (rd_T49 t (i : Int)).f1 (rd_T49 t (i : Int)).f2 k) = true := by
 have hp := H.part i hi
 have hb := H.bad i hi
 unfold badI at hb
 generalize (rd_T49 t (i : Int)).f1 = l at hp hk ⊢
 generalize (rd_T49 t (i : Int)).f2 = r at hp hb ⊢
 unfold partB at hp
 simp only [Bool.and_eq_true] at hp
 obtain ⟨_, _, _, hins, hrefs⟩ := hp
 have hx : insB (rd_T57 l (k : Int)) = true := by rw [rdIns' l k hk]; exact List.all_eq_true.1 hins _ (List.getElem_mem hk)
 unfold insAt
 by_cases c : 0 ≤ refIdx (k : Int) r 0
 ·rw [if_pos c]
  obtain ⟨j, hj⟩ : ∃ j : Nat, refIdx (k : Int) r 0 = (j : Int) := ⟨_, (Int.toNat_of_nonneg c).symm⟩
  have hlt := refIdx_lt (k : Int) r 0
  have hjl : j < r.length := by omega
  obtain ⟨q1, q2⟩ := refIdx_at (k : Int) r 0 j (by rw [hj]; omega)
  have hc := ((refsB_iff l r).1 hrefs).1 j hjl
  unfold refCond at hc
  simp only [Bool.and_eq_true] at hc
  have hg := hc.2.2.1
  rw [rdRefL r j hjl, q2] at hg
  have h4 := badP_no hb j hjl
  have h5 := partIdx_lt (rd_T61 r (j : Int)).f1 t 0
  have h5' : toOf t r (j : Int) < (t.length : Int) := by unfold toOf; omega
  rw [hj]
  refine put_ok _ _ hx hg ?_
  rw [rdOut t _ h4 h5']
  have := atTo_mono t (toOf t r (j : Int)).toNat t.length (by omega)
  have := H.all
  omega
 ·rw [if_neg c]; exact hx
theorem linked_l2 (t : List TP) (H : Lk t) (m : List Int) (i k : Nat) (hi : i < t.length) (hk : k < (rd_T49 t (i : Int)).f1.length) (K1 : Nat)
  (next : ∀ q, K1 < q → laws_FnLinked.l1 q t m (outTo t t.length) (i : Int) ((k + 1 : Nat) : Int) = some true) :
  ∀ (d r q : Nat), r + d = (rd_T49 t (i : Int)).f2.length → K1 + d + 1 < q →
   laws_FnLinked.l2 q t m (outTo t t.length) (i : Int) (k : Int) true (r : Int)
    (insAt t (outTo t t.length) (rd_T49 t (i : Int)).f1 (rd_T49 t (i : Int)).f2 k).f0 (insAt t (outTo t t.length) (rd_T49 t (i : Int)).f1 (rd_T49 t (i : Int)).f2 k).f1 (insAt t (outTo t t.length) (rd_T49 t (i : Int)).f1 (rd_T49 t (i : Int)).f2 k).f2 (insAt t (outTo t t.length) (rd_T49 t (i : Int)).f1 (rd_T49 t (i : Int)).f2 k).f3 (insAt t (outTo t t.length) (rd_T49 t (i : Int)).f1 (rd_T49 t (i : Int)).f2 k).f4
    (rd_T57 (rd_T49 t (i : Int)).f1 (k : Int)).f0 (rd_T57 (rd_T49 t (i : Int)).f1 (k : Int)).f1 (rd_T57 (rd_T49 t (i : Int)).f1 (k : Int)).f2 (rd_T57 (rd_T49 t (i : Int)).f1 (k : Int)).f3
    (if 0 ≤ refIdx (k : Int) (rd_T49 t (i : Int)).f2 0 ∧ refIdx (k : Int) (rd_T49 t (i : Int)).f2 0 < (r : Int) then rd (outTo t t.length) (toOf t (rd_T49 t (i : Int)).f2 (refIdx (k : Int) (rd_T49 t (i : Int)).f2 0)) else (rd_T57 (rd_T49 t (i : Int)).f1 (k : Int)).f4) = some true
 | 0, r, q, hr, hq => by
  obtain ⟨q, rfl⟩ : ∃ z, q = z + 1 := ⟨q - 1, by omega⟩
  have hlt := refIdx_lt (k : Int) (rd_T49 t (i : Int)).f2 0
  rw [laws_FnLinked.l2, if_pos (by omega), if_pos (by omega), if_neg (by omega), if_pos rfl, wrap_succ (by have := H.all; have := (refsOk_of (H.part i hi)).2.1; omega)]
  unfold insAt putN
  by_cases c : 0 ≤ refIdx (k : Int) (rd_T49 t (i : Int)).f2 0
  ·have c2 : 0 ≤ refIdx (k : Int) (rd_T49 t (i : Int)).f2 0 ∧ refIdx (k : Int) (rd_T49 t (i : Int)).f2 0 < (r : Int) := ⟨c, by omega⟩
   rw [if_pos c, if_pos c2]
   simp only [beq_self_eq_true, Bool.not_true, Bool.or_false, Bool.false_eq_true, if_false]
   exact next q (by omega)
  ·have c2 : ¬ (0 ≤ refIdx (k : Int) (rd_T49 t (i : Int)).f2 0 ∧ refIdx (k : Int) (rd_T49 t (i : Int)).f2 0 < (r : Int)) := fun x => c x.1
   rw [if_neg c, if_neg c2]
   simp only [beq_self_eq_true, Bool.not_true, Bool.or_false, Bool.false_eq_true, if_false]
   exact next q (by omega)
 | d + 1, r, q, hr, hq => by
  obtain ⟨q, rfl⟩ : ∃ z, q = z + 1 := ⟨q - 1, by omega⟩
  have hrl : r < (rd_T49 t (i : Int)).f2.length := by omega
  have ih := linked_l2 t H m i k hi hk K1 next d (r + 1) q (by omega) (by omega)
  obtain ⟨ro, r1, r2⟩ := refsOk_of (H.part i hi)
  obtain ⟨a, a1, a2, a3⟩ := ro r hrl
  have h4 := badP_no (H.bad i hi) r hrl
  have h5 := partIdx_lt (rd_T61 (rd_T49 t (i : Int)).f2 (r : Int)).f1 t 0
  have h5' : toOf t (rd_T49 t (i : Int)).f2 (r : Int) < (t.length : Int) := by unfold toOf; omega
  have e2 : impl_PartAt.f t (rd_T61 (rd_T49 t (i : Int)).f2 (r : Int)).f1 = some (toOf t (rd_T49 t (i : Int)).f2 (r : Int)) := rfl
  rw [laws_FnLinked.l2, if_pos (by omega), if_pos (by omega), if_pos (by omega), if_pos (by omega), a1]
  by_cases c : a = k
  ·subst c
   rw [if_pos rfl, e2, Option.bind_some, if_pos h4, if_pos (by rw [outTo_len]; exact h5'), wrap_succ (by omega)]
   rw [a3, if_pos ⟨by omega, by omega⟩] at ih
   exact ih
  ·have hne : refIdx (k : Int) (rd_T49 t (i : Int)).f2 0 ≠ (r : Int) := fun q => by
    obtain ⟨h3, h4⟩ := refIdx_at (k : Int) (rd_T49 t (i : Int)).f2 0 r (by rw [q]; omega)
    rw [rdRefL _ r hrl] at a1
    rw [a1] at h4; omega
   have hiff : (0 ≤ refIdx (k : Int) (rd_T49 t (i : Int)).f2 0 ∧ refIdx (k : Int) (rd_T49 t (i : Int)).f2 0 < ((r + 1 : Nat) : Int)) ↔ (0 ≤ refIdx (k : Int) (rd_T49 t (i : Int)).f2 0 ∧ refIdx (k : Int) (rd_T49 t (i : Int)).f2 0 < (r : Int)) := by omega
   rw [if_neg (by omega), wrap_succ (by omega)]
   simp only [hiff] at ih
   exact ih
theorem lk_f (t : List TP) (H : Lk t) (i k : Nat) (hi : i < t.length) (hk : k < (rd_T49 t (i : Int)).f1.length) :
  (0 ≤ (i : Int) ∧ (i : Int) < (t.length : Int) ∧ (k : Int) < ((rd_T49 t (i : Int)).f1.length : Int) ∧ (i : Int) < ((outTo t t.length).length : Int) ∧ 0 ≤ (k : Int)) ∧ atTo t i + k < 24 ∧ k < 24 := by
 have hm1 := atTo_mono t (i + 1) t.length (by omega)
 rw [atTo] at hm1
 have h24 := H.all
 rw [outTo_len]
 generalize (rd_T49 t (i : Int)).f1.length = L at hk hm1
 omega
theorem lk_g (a k : Nat) (h : a + k < 24) : wrap64 ((a : Int) + (k : Int)) = ((a + k : Nat) : Int) ∧ 0 ≤ ((a + k : Nat) : Int) ∧ ((a + k : Nat) : Int) < ((24 : Nat) : Int) := by
 rw [wrap_small (by omega) (by omega)]; omega
theorem lk_len (t : List TP) (H : Lk t) : (accTo t (outTo t t.length) t.length ++ List.replicate (24 - atTo t t.length) (0 : Int)).length = 24 := by
 have h24 := H.all
 rw [List.length_append, accTo_len, List.length_replicate]; omega
theorem lk_out (t : List TP) (i : Nat) (hi : i < t.length) : rd (outTo t t.length) (i : Int) = (atTo t i : Int) := by
 have := rdOut t (i : Int) (by omega) (by omega)
 rw [Int.toNat_natCast] at this; exact this
theorem lk_m (t : List TP) (i k : Nat) (hi : i < t.length) (hk : k < (rd_T49 t (i : Int)).f1.length) : rd (accTo t (outTo t t.length) t.length ++ List.replicate (24 - atTo t t.length) 0) ((atTo t i + k : Nat) : Int) = codeI (insAt t (outTo t t.length) (rd_T49 t (i : Int)).f1 (rd_T49 t (i : Int)).f2 k) := by
 obtain ⟨g1, g2⟩ := accTo_get t (outTo t t.length) i k hk t.length hi
 rw [rd_nat _ _ (Nat.lt_of_lt_of_le g1 (by rw [List.length_append]; exact Nat.le_add_right _ _)), List.getElem_append_left g1, g2]
theorem linked_step (t : List TP) (H : Lk t) (i k : Nat) (hi : i < t.length) (hk : k < (rd_T49 t (i : Int)).f1.length) (q : Nat) :
  laws_FnLinked.l1 (q + 1) t (accTo t (outTo t t.length) t.length ++ List.replicate (24 - atTo t t.length) 0) (outTo t t.length) (i : Int) (k : Int) =
   laws_FnLinked.l2 q t (accTo t (outTo t t.length) t.length ++ List.replicate (24 - atTo t t.length) 0) (outTo t t.length) (i : Int) (k : Int) true 0
    (insAt t (outTo t t.length) (rd_T49 t (i : Int)).f1 (rd_T49 t (i : Int)).f2 k).f0 (insAt t (outTo t t.length) (rd_T49 t (i : Int)).f1 (rd_T49 t (i : Int)).f2 k).f1 (insAt t (outTo t t.length) (rd_T49 t (i : Int)).f1 (rd_T49 t (i : Int)).f2 k).f2 (insAt t (outTo t t.length) (rd_T49 t (i : Int)).f1 (rd_T49 t (i : Int)).f2 k).f3 (insAt t (outTo t t.length) (rd_T49 t (i : Int)).f1 (rd_T49 t (i : Int)).f2 k).f4
    (rd_T57 (rd_T49 t (i : Int)).f1 (k : Int)).f0 (rd_T57 (rd_T49 t (i : Int)).f1 (k : Int)).f1 (rd_T57 (rd_T49 t (i : Int)).f1 (k : Int)).f2 (rd_T57 (rd_T49 t (i : Int)).f1 (k : Int)).f3 (rd_T57 (rd_T49 t (i : Int)).f1 (k : Int)).f4 := by
 obtain ⟨⟨f1, f2, f3, f4, f7⟩, h24, _⟩ := lk_f t H i k hi hk
 obtain ⟨ew, f5, f6⟩ := lk_g _ _ h24
 have hdec := decode_code _ (insAt_ok t H i k hi hk)
 have hm := lk_m t i k hi hk
 have hl := lk_len t H
 rw [laws_FnLinked.l1]
 generalize accTo t (outTo t t.length) t.length ++ List.replicate (24 - atTo t t.length) (0 : Int) = m at hm hl ⊢
 rw [← hl] at f6
 rw [if_pos f1, if_pos f2, if_pos f3, if_pos f4, lk_out t i hi, ew, if_pos f5, if_pos f6, hm, implDecode_eq, Option.bind_some, hdec, if_pos f7]
theorem linked_l1 (t : List TP) (H : Lk t) (i : Nat) (hi : i < t.length) (K0 : Nat)
  (next : ∀ q, K0 < q → laws_FnLinked.l0 q t (accTo t (outTo t t.length) t.length ++ List.replicate (24 - atTo t t.length) 0) (outTo t t.length) ((i + 1 : Nat) : Int) = some true) :
  ∀ (d k q : Nat), k + d = (rd_T49 t (i : Int)).f1.length → K0 + 40 * d + 1 < q →
   laws_FnLinked.l1 q t (accTo t (outTo t t.length) t.length ++ List.replicate (24 - atTo t t.length) 0) (outTo t t.length) (i : Int) (k : Int) = some true := by
 intro d
 induction d with
 | zero =>
  intro k q hk hq
  obtain ⟨q, rfl⟩ : ∃ z, q = z + 1 := ⟨q - 1, by omega⟩
  have := H.four
  rw [laws_FnLinked.l1, if_pos (by omega), if_pos (by omega), if_neg (by omega), wrap_succ (by omega)]
  exact next q (by omega)
 | succ d ih =>
  intro k q hk hq
  obtain ⟨q, rfl⟩ : ∃ z, q = z + 1 := ⟨q - 1, by omega⟩
  have hkl : k < (rd_T49 t (i : Int)).f1.length := by omega
  have r2 := (refsOk_of (H.part i hi)).2.2
  have h2 := linked_l2 t H (accTo t (outTo t t.length) t.length ++ List.replicate (24 - atTo t t.length) 0) i k hi hkl (K0 + 40 * d + 1) (fun q hq => ih (k + 1) q (by omega) hq) (rd_T49 t (i : Int)).f2.length 0 q (Nat.zero_add _) (by omega)
  have f8 : ¬ (0 ≤ refIdx (k : Int) (rd_T49 t (i : Int)).f2 0 ∧ refIdx (k : Int) (rd_T49 t (i : Int)).f2 0 < ((0 : Nat) : Int)) := fun h => absurd h.1 (Int.not_le.2 h.2)
  rw [if_neg f8] at h2
  rw [linked_step t H i k hi hkl q]
  exact h2
theorem linked_l0 (t : List TP) (H : Lk t) : ∀ (d i q : Nat), i + d = t.length → 1200 * d + 1 < q →
   laws_FnLinked.l0 q t (accTo t (outTo t t.length) t.length ++ List.replicate (24 - atTo t t.length) 0) (outTo t t.length) (i : Int) = some true
 | 0, i, q, hi, hq => by
  obtain ⟨q, rfl⟩ : ∃ z, q = z + 1 := ⟨q - 1, by omega⟩
  rw [laws_FnLinked.l0, if_neg (by omega)]
 | d + 1, i, q, hi, hq => by
  obtain ⟨q, rfl⟩ : ∃ z, q = z + 1 := ⟨q - 1, by omega⟩
  have hil : i < t.length := by omega
  obtain ⟨_, r1, _⟩ := refsOk_of (H.part i hil)
  rw [laws_FnLinked.l0, if_pos (by omega)]
  exact linked_l1 t H i hil (1200 * d + 1) (fun q hq => linked_l0 t H d (i + 1) q (by omega) hq) _ 0 q (Nat.zero_add _) (by omega)
theorem FnLinked : laws_FnLinked.Pure := by
 intro c _ _ _
 obtain ⟨K, hK⟩ : ∃ K : Nat, 9000000 ≤ K := ⟨_, Nat.le_refl _⟩
 refine ⟨K + 2, ?_⟩
 unfold laws_FnLinked.f laws_big.f
 rw [Option.bind_some]
 by_cases hb : (c.length : Int) > 1048576
 ·rw [if_pos (decide_eq_true hb)]
 rw [if_neg (by simpa using hb)]
 obtain ⟨i0, s0, e0, c0⟩ := l1New_ex c (by omega) (K + 2) (by omega)
 obtain ⟨l, i1, s1, e1, hs, c1⟩ := drawList_ex c i0 s0 c0 (K + 2) (by omega)
 have ed : spec_DrawLink.f (K + 2) c = some l := by
  unfold spec_DrawLink.f
  rw [e0, Option.bind_some]
  dsimp only
  rw [e1, Option.bind_some]
 have ed2 : spec_DrawLayout.f (K + 2) c = some l := by
  unfold spec_DrawLayout.f
  rw [e0, Option.bind_some]
  dsimp only
  rw [e1, Option.bind_some]
 have ed3 : ∃ n L R, spec_DrawPartOk.f (K + 2) c = some (n, L, R) ∧ smallPart n L R := by
  unfold spec_DrawPartOk.f
  rw [e0, Option.bind_some]
  obtain ⟨n, L, R, i2, s2, e2, hp, _⟩ := drawPart_ex c i0 s0 c0 (K + 2) (by omega)
  dsimp only
  rw [e2, Option.bind_some]
  exact ⟨_, _, _, rfl, hp⟩
 obtain ⟨n, L, R, ed3, sp⟩ := ed3
 have ed4 : ∃ a, spec_DrawPartAt.f (K + 2) c = some (l, a) := by
  unfold spec_DrawPartAt.f
  rw [e0, Option.bind_some]
  dsimp only
  rw [e1, Option.bind_some]
  dsimp only
  obtain ⟨pn, i3, s3, e3, _, _⟩ := l1Pick_ex c i1 s1 c1 ([(⟨#[109, 97, 105, 110]⟩ : ByteArray), (⟨#[101, 110, 100]⟩ : ByteArray), (⟨#[110, 111, 110, 101]⟩ : ByteArray)] : List ByteArray) (by simp) (by simp)
  rw [e3, Option.bind_some]
  exact ⟨_, rfl⟩
 obtain ⟨a, ed4⟩ := ed4
 have hp : partsIn l := fun x hx => by have := hs.2 x hx; exact ⟨by have := this.1; omega, by have := this.2.1; omega, by have := this.2.2.1; omega, fun y hy => by have := this.2.2.2 y hy; omega⟩
 have h4 := hs.1
 have hlen : (layV l).1.length ≤ 4 := by
  unfold layV; split
  ·rw [outTo_len]; exact hs.1
  ·simp
 have hlen2 : (linkV l).1.length ≤ 48 := by
  unfold linkV; split
  ·rename_i h
   obtain ⟨_, _, h3⟩ := layB_parts h
   unfold linkE; split
   ·simp
   ·rw [List.length_append, accTo_len, List.length_replicate]; omega
  ·simp
 obtain ⟨p1, p2, p3, p4⟩ := sp
 rw [ed, Option.bind_some, implLink_eq l hp (K + 2) (by omega), Option.bind_some, specLink_eq l hp (by omega) (K + 2) (by omega), Option.bind_some, ed2, Option.bind_some, implLayout_eq l hp (K + 2) (by omega), Option.bind_some, specLayout_eq l hp (by omega) (K + 2) (by omega), Option.bind_some, ed3, Option.bind_some, ed4, Option.bind_some,
  if_neg (by simp), sameInts_same _ (by omega) (K + 2) (by omega), Option.bind_some, if_pos rfl, if_neg (by simp), sameInts_same _ (by omega) (K + 2) (by omega), Option.bind_some, if_pos rfl]
 dsimp only
 rw [implPartOk_eq n L R (by omega) (by omega) (by omega) (fun x hx => by have := p4 x hx; omega) (K + 2) (by omega), Option.bind_some, specPartOk_eq n L R (by omega) (by omega) (by omega) (fun x hx => by have := p4 x hx; omega) (K + 2) (by omega), Option.bind_some, if_neg (by simp), show impl_PartAt.f l a = some (partIdx a l 0) from rfl, Option.bind_some, specPartAt_eq l a (by omega) (K + 2) (by omega), Option.bind_some, show (partIdx a l 0 != partIdx a l 0) = false by simp, laws_FnLinked.j0, if_neg (by simp)]
 by_cases hL : layB l = true
 ·have e : layV l = (outTo l l.length, true) := by unfold layV; rw [if_pos hL]
  by_cases hB : (List.range l.length).any (badI l) = true
  ·have e2 : linkV l = ([], false) := by unfold linkV linkE; rw [if_pos hL, if_pos hB]
   rw [e2, if_neg (by simp)]; rfl
  ·have e2 : linkV l = (accTo l (outTo l l.length) l.length ++ List.replicate (24 - atTo l l.length) 0, true) := by unfold linkV linkE; rw [if_pos hL, if_neg hB]
   obtain ⟨_, _, h24⟩ := layB_parts hL
   have hml : (accTo l (outTo l l.length) l.length ++ List.replicate (24 - atTo l l.length) (0 : Int)).length = 24 := by rw [List.length_append, accTo_len, List.length_replicate]; omega
   have H : Lk l := by
    refine ⟨h4, fun i hi => ?_, h24, fun i hi => ?_⟩
    ·unfold layB at hL
     rw [Bool.and_eq_true, Bool.and_eq_true, List.all_eq_true] at hL
     have := hL.2.1 i (List.mem_range.2 hi)
     unfold okP at this
     rw [Bool.and_eq_true] at this
     exact this.1
    ·rw [Bool.not_eq_true, List.any_eq_false] at hB
     simpa using hB i (List.mem_range.2 hi)
   rw [e2, if_pos rfl, implLayout_eq l hp (K + 1) (by omega), Option.bind_some, e]
   dsimp only
   rw [if_pos rfl, hml, show (((24 : Nat) : Int) != 24) = false from rfl, laws_FnLinked.j1, if_neg (by simp)]
   exact linked_l0 l H l.length 0 K (Nat.zero_add _) (by omega)
 ·have e2 : linkV l = ([], false) := by unfold linkV; rw [if_neg hL]
  rw [e2, if_neg (by simp)]; rfl
end Go.Proofs.Ytaakcbgpmabaaaa.Pure
