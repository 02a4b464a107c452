/- For all bytes: two harts that count with swaps always end with two counted; two that count without may end with one or two, never with three: no conditions. -/
import Derived.Test.YtnjdepmlpdjghaaPFnAllCountsx14
namespace Go.Proofs.Ytnjdepmlpdjghaa.Pure
open Go.RowKit Go.Proofs.Ytnjdepmlpdjghaa.PFnAllCounts Go.Proofs.YtnjdepmlpdjghaaW.PrintWords Go.Proofs.YtnjdepmlpdjghaaW.PrintLast
set_option linter.unusedVariables false
set_option linter.unusedSimpArgs false

theorem wrap_small {x : Int} (h0 : -9223372036854775808 ≤ x) (h : x ≤ 9223372036854775807) : wrap64 x = x := by
 unfold wrap64; omega
theorem wrap_succ {i : Nat} (h : i < 4611686018427387904) : wrap64 ((i : Int) + 1) = ((i + 1 : Nat) : Int) := by
 unfold wrap64; omega
theorem rd_nat (l : List Int) (i : Nat) (h : i < l.length) : rd l (i : Int) = l[i] := by
 unfold rd; simp [List.getD, h]
theorem rd_mem (l : List Int) (i : Nat) (h : i < l.length) : rd l (i : Int) ∈ l := by
 rw [rd_nat l i h]; exact List.getElem_mem h
theorem for_st {σ ρ : Type} (n : Nat) (L : Nat → Nat → σ → Option ρ) (st : Nat → σ) (r : ρ) (hs : ∀ k i, i < n → L (k + 1) i (st i) = L k (i + 1) (st (i + 1))) (he : ∀ k, L (k + 1) n (st n) = some r) :
  ∀ (k i : Nat), i ≤ n → n < i + k → L k i (st i) = some r
 | 0, i, hi, hk => by omega
 | k + 1, i, hi, hk => by
  by_cases h : i < n
  ·rw [hs k i h]; exact for_st n L st r hs he k (i + 1) (by omega) (by omega)
  ·have : i = n := by omega
   subst this; exact he k
theorem for_find {ρ : Type} (n : Nat) (L : Nat → Nat → Option ρ) (p : Nat → Prop) (b : Nat → ρ) (r : ρ) (hs : ∀ k i, i < n → ¬ p i → L (k + 1) i = L k (i + 1)) (hb : ∀ k i, i < n → p i → L (k + 1) i = some (b i)) (he : ∀ k, L (k + 1) n = some r) :
  ∀ (k i : Nat), i ≤ n → n < i + k → (∃ j, i ≤ j ∧ j < n ∧ p j ∧ (∀ m, i ≤ m → m < j → ¬ p m) ∧ L k i = some (b j)) ∨ (∀ j, i ≤ j → j < n → ¬ p j) ∧ L k i = some r
 | 0, i, hi, hk => by omega
 | k + 1, i, hi, hk => by
  by_cases h : i < n
  ·by_cases hp : p i
   ·exact .inl ⟨i, Nat.le_refl _, h, hp, fun m h1 h2 => by omega, hb k i h hp⟩
   ·rw [hs k i h hp]
    rcases for_find n L p b r hs hb he k (i + 1) (by omega) (by omega) with ⟨j, h1, h2, h3, h4, h5⟩ | ⟨h1, h2⟩
    ·refine .inl ⟨j, by omega, h2, h3, fun m hm1 hm2 => ?_, h5⟩
     by_cases e : m = i
     ·subst e; exact hp
     ·exact h4 m (by omega) hm2
    ·refine .inr ⟨fun j hj1 hj2 => ?_, h2⟩
     by_cases e : j = i
     ·subst e; exact hp
     ·exact h1 j (by omega) hj2
  ·have : i = n := by omega
   subst this; exact .inr ⟨fun j h1 h2 => by omega, he k⟩
theorem for_all {n : Nat} {L : Nat → Nat → Option Bool} (p : Nat → Prop) (hs : ∀ k i, i < n → p i → L (k + 1) i = L k (i + 1)) (hb : ∀ k i, i < n → ¬ p i → L (k + 1) i = some false) (c : Bool) (he : ∀ k, L (k + 1) n = some c) {q : Bool}
  (hq : q = true ↔ (∀ j, j < n → p j) ∧ c = true) (k : Nat) (hk : n < k) : L k 0 = some q := by
 rcases for_find n L (fun i => ¬ p i) (fun _ => false) c (fun k i h hp => hs k i h (Classical.not_not.1 hp)) (fun k i h hp => hb k i h hp) he k 0 (Nat.zero_le _) (by omega) with ⟨j, _, h2, h3, _, h5⟩ | ⟨h1, h2⟩
 ·rw [h5]; congr 1; symm
  rw [Bool.eq_false_iff]; intro hh; exact h3 ((hq.1 hh).1 j h2)
 ·rw [h2]; congr 1
  have : ∀ j, j < n → p j := fun j hj => Classical.not_not.1 (h1 j (Nat.zero_le _) hj)
  rw [Bool.eq_iff_iff, hq]; exact ⟨fun h => ⟨this, h⟩, fun h => h.2⟩
theorem snoc_step {α : Type} (a : List α) (i : Nat) (hi : i < a.length) : a.take i ++ [a[i]'hi] = a.take (i + 1) := by
 rw [List.take_succ_eq_append_getElem hi]
theorem eq_iff_all (a b : List Int) (h : a.length = b.length) : a = b ↔ ∀ j, j < a.length → rd a (j : Int) = rd b (j : Int) := by
 constructor
 ·rintro rfl j _; rfl
 ·intro hh; refine List.ext_getElem h (fun j h1 h2 => ?_)
  have := hh j h1
  rwa [rd_nat a j h1, rd_nat b j h2] at this
theorem wraps_i64 (n : Int) (h0 : 0 ≤ n) (h1 : n < 2 ^ 62) : IntKind.i64.wrap n = n := by rw [IntKind.wrap_i64]; omega
theorem idx_any {n : Nat} (L : Nat → Nat → Option Int) (q : Nat → Bool) (hs : ∀ k i, i < n → q i = false → L (k + 1) i = L k (i + 1)) (hb : ∀ k i, i < n → q i = true → L (k + 1) i = some (i : Int)) (he : ∀ k, L (k + 1) n = some (-1)) (r : Bool)
  (hr : r = true ↔ ∃ j, j < n ∧ q j = true) (k : Nat) (hk : n < k) : ∃ v, L k 0 = some v ∧ decide (v ≥ 0) = r := by
 rcases for_find n L (fun i => q i = true) (fun i => (i : Int)) (-1) (fun k i h hp => hs k i h (by simpa using hp)) hb he k 0 (Nat.zero_le _) (by omega) with ⟨j, _, h2, h3, _, h5⟩ | ⟨h1, h2⟩
 ·refine ⟨_, h5, ?_⟩
  rw [decide_eq_true (by omega : (j : Int) ≥ 0)]; exact (hr.2 ⟨j, h2, h3⟩).symm
 ·refine ⟨_, h2, ?_⟩
  rw [decide_eq_false (by omega : ¬ (-1 : Int) ≥ 0)]; symm; rw [Bool.eq_false_iff]; intro hh
  obtain ⟨j, hj, hq⟩ := hr.1 hh
  exact h1 j (Nat.zero_le _) hj hq
theorem same_loop {n C : Nat} (L : Nat → Nat → Option Bool) (hs : ∀ k i, i < n → C ≤ k → L (k + 1) i = L k (i + 1)) (he : ∀ k, L (k + 1) n = some true) (k : Nat) (hk : n + C < k) : L k 0 = some true := by
 have h := for_st n (fun k' i (_ : Unit) => L (k' + C) i) (fun _ => ()) true ?_ ?_ (k - C) 0 (Nat.zero_le _) (by omega)
 ·rw [show k - C + C = k by omega] at h; exact h
 ·intro k' i hi; rw [show k' + 1 + C = (k' + C) + 1 by omega, hs _ _ hi (by omega)]
 ·intro k'; rw [show k' + 1 + C = (k' + C) + 1 by omega, he]
def wordsB (l : List Int) (n : Int) : Bool := decide ((l.length : Int) = n) && l.all (fun x => decide (0 ≤ x ∧ x ≤ 65535))
theorem wordsB_mem {l : List Int} {n : Int} (h : wordsB l n = true) (x : Int) (hx : x ∈ l) : 0 ≤ x ∧ x ≤ 65535 := by
 unfold wordsB at h; rw [Bool.and_eq_true, List.all_eq_true] at h; exact of_decide_eq_true (h.2 x hx)
def hartB (regs : List Int) (pc st : Int) : Bool := wordsB regs 4 && (decide (0 ≤ pc ∧ pc ≤ 23) && decide (0 ≤ st ∧ st ≤ 2))
theorem ite_some' (b c : Bool) : (if b = true then some c else some false) = some (b && c) := by cases b <;> rfl
theorem hartB_len {r : List Int} {p s : Int} (h : hartB r p s = true) : r.length = 4 := by
 unfold hartB wordsB at h; rw [Bool.and_eq_true, Bool.and_eq_true] at h; have := of_decide_eq_true h.1.1; omega
theorem wordsB_24 {l : List Int} (h : wordsB l 24 = true) : l.length = 24 := by unfold wordsB at h; rw [Bool.and_eq_true] at h; have := of_decide_eq_true h.1; omega
theorem tmod_pos (n c : Int) (h : 0 ≤ n) : Int.tmod n c = n % c := Int.tmod_eq_emod_of_nonneg h
theorem tmod_neg (n c : Int) (h : n < 0) : Int.tmod n c = -((-n) % c) := by
 rw [← Int.tmod_eq_emod_of_nonneg (by omega : 0 ≤ -n), Int.neg_tmod, Int.neg_neg]
theorem tdiv_pos (n c : Int) (h : 0 ≤ n) : Int.tdiv n c = n / c := Int.tdiv_eq_ediv_of_nonneg h
theorem tmod_up (n c : Int) (hc : 0 < c) (hb : c ≤ 4294967296) : Int.tmod (Int.tmod n c + c) c = n % c := by
 have h1 := Int.emod_nonneg n (by omega : c ≠ 0)
 have h2 := Int.emod_lt_of_pos n hc
 rcases Int.lt_or_le n 0 with h | h
 ·rw [tmod_neg n c h]
  have h3 := Int.emod_nonneg (-n) (by omega : c ≠ 0)
  have h4 := Int.emod_lt_of_pos (-n) hc
  rw [tmod_pos _ _ (by omega), Int.add_emod_right, ← Int.sub_emod_right]
  have := Int.emod_add_mul_ediv (-n) c
  have e : -(-n % c) - c = n + c * ((-n) / c - 1) := by
   have : n = -(-n % c) - c * ((-n) / c) := by omega
   rw [Int.mul_sub]; omega
  rw [e, Int.add_mul_emod_self_left]
 ·rw [tmod_pos n c h, tmod_pos _ _ (by omega), Int.add_emod_right, Int.emod_emod_of_dvd _ (Int.dvd_refl c)]
theorem tmod_bd (n c : Int) (hc : 0 < c) : -c < Int.tmod n c ∧ Int.tmod n c < c := by
 rcases Int.lt_or_le n 0 with h | h
 ·rw [tmod_neg n c h]
  have h3 := Int.emod_nonneg (-n) (by omega : c ≠ 0)
  have h4 := Int.emod_lt_of_pos (-n) hc
  omega
 ·rw [tmod_pos n c h]
  have h3 := Int.emod_nonneg n (by omega : c ≠ 0)
  have h4 := Int.emod_lt_of_pos n hc
  omega
theorem l1In_eq (x lo hi : Int) : spec_l1In.f x lo hi = some (decide (lo ≤ x ∧ x ≤ hi)) := by
 unfold spec_l1In.f
 by_cases h : x ≥ lo
 ·rw [if_pos h]; have h' : lo ≤ x := h; simp [h']
 ·rw [if_neg h]; have h' : ¬ lo ≤ x := h; simp [h']
theorem from_eq (x lo hi : Int) : impl_from.f x lo hi = some (decide (lo ≤ x ∧ x ≤ hi)) := by
 unfold impl_from.f
 by_cases h : x ≥ lo
 ·rw [if_pos h]; have h' : lo ≤ x := h; simp [h']
 ·rw [if_neg h]; have h' : ¬ lo ≤ x := h; simp [h']
theorem isWord_eq (x : Int) : impl_isWord.f x = some (decide (0 ≤ x ∧ x ≤ 65535)) := by
 unfold impl_isWord.f; rw [from_eq]; rfl
theorem isCell_eq (x : Int) : impl_isCell.f x = some (decide (0 ≤ x ∧ x ≤ 23)) := by
 unfold impl_isCell.f; rw [from_eq]; rfl
theorem l1Words_eq (l : List Int) (n : Int) (hl : l.length ≤ 2097152) (k : Nat) (hk : l.length < k) : spec_l1Words.f k l n = some (wordsB l n) := by
 unfold spec_l1Words.f
 refine for_all (L := fun k i => spec_l1Words.l0 k l n (i : Int)) (n := l.length) (fun j => 0 ≤ rd l (j : Int) ∧ rd l (j : Int) ≤ 65535) ?_ ?_ (decide ((l.length : Int) = n)) ?_ ?_ k hk
 ·intro k i hi hp
  simp only [spec_l1Words.l0]
  rw [if_pos (by omega), if_pos (by omega), l1In_eq, decide_eq_true hp, Option.bind_some, if_pos rfl, wrap_succ (by omega)]
 ·intro k i hi hp
  simp only [spec_l1Words.l0]
  rw [if_pos (by omega), if_pos (by omega), l1In_eq, decide_eq_false hp, Option.bind_some, if_neg (by simp)]
 ·intro k
  simp only [spec_l1Words.l0]
  rw [if_neg (by omega)]; rfl
 ·unfold wordsB
  rw [Bool.and_eq_true, List.all_eq_true]
  constructor
  ·rintro ⟨h1, h2⟩; exact ⟨fun j hj => of_decide_eq_true (h2 _ (rd_mem l j hj)), h1⟩
  ·rintro ⟨h1, h2⟩; refine ⟨h2, fun x hx => ?_⟩
   obtain ⟨j, hj, rfl⟩ := List.getElem_of_mem hx
   have := h1 j hj; rw [rd_nat l j hj] at this; exact decide_eq_true this
theorem wordsOk_eq (l : List Int) (n : Int) (hl : l.length ≤ 2097152) (k : Nat) (hk : l.length < k) : impl_wordsOk.f k l n = some (wordsB l n) := by
 unfold impl_wordsOk.f
 by_cases h : (l.length : Int) = n
 ·rw [if_pos h]
  unfold slices_ContainsFunc_at_impl_wordsOk_1.f slices_IndexFunc_at_impl_wordsOk_1.f
  have hf : ∀ x, impl_wordsOk_1.f x = some (!decide (0 ≤ x ∧ x ≤ 65535)) := fun x => by unfold impl_wordsOk_1.f; rw [isWord_eq]; rfl
  have hs : ∀ k i, i < l.length → ¬ ¬ (0 ≤ rd l (i : Int) ∧ rd l (i : Int) ≤ 65535) → slices_IndexFunc_at_impl_wordsOk_1.l0 (k + 1) l (l.length : Int) (i : Int) = slices_IndexFunc_at_impl_wordsOk_1.l0 k l (l.length : Int) ((i + 1 : Nat) : Int) := by
   intro k i hi hp
   simp only [slices_IndexFunc_at_impl_wordsOk_1.l0]
   rw [if_pos (by omega), if_pos (by omega), if_pos (by omega), hf, decide_eq_true (Classical.not_not.1 hp), Option.bind_some, if_neg (by simp), wrap_succ (by omega)]
  have hb : ∀ k i, i < l.length → ¬ (0 ≤ rd l (i : Int) ∧ rd l (i : Int) ≤ 65535) → slices_IndexFunc_at_impl_wordsOk_1.l0 (k + 1) l (l.length : Int) (i : Int) = some (i : Int) := by
   intro k i hi hp
   simp only [slices_IndexFunc_at_impl_wordsOk_1.l0]
   rw [if_pos (by omega), if_pos (by omega), if_pos (by omega), hf, decide_eq_false hp, Option.bind_some, if_pos (by simp)]
  have he : ∀ k, slices_IndexFunc_at_impl_wordsOk_1.l0 (k + 1) l (l.length : Int) (l.length : Int) = some (-1) := by
   intro k
   simp only [slices_IndexFunc_at_impl_wordsOk_1.l0]
   rw [if_neg (by omega)]
  rcases for_find l.length (fun k i => slices_IndexFunc_at_impl_wordsOk_1.l0 k l (l.length : Int) (i : Int)) (fun j => ¬ (0 ≤ rd l (j : Int) ∧ rd l (j : Int) ≤ 65535)) (fun j => (j : Int)) (-1) hs hb he k 0 (Nat.zero_le _) (by omega) with ⟨j, _, h2, h3, _, h5⟩ | ⟨h1, h2⟩
  ·have h5' : slices_IndexFunc_at_impl_wordsOk_1.l0 k l (l.length : Int) 0 = some (j : Int) := h5
   rw [h5']
   simp only [Option.bind_some]; congr 1; symm
   rw [decide_eq_true (by omega : (j : Int) ≥ 0), Bool.not_true, wordsB, Bool.and_eq_false_iff]; right
   rw [Bool.eq_false_iff]; intro hh
   exact h3 (of_decide_eq_true (List.all_eq_true.1 hh _ (rd_mem l j h2)))
  ·have h2' : slices_IndexFunc_at_impl_wordsOk_1.l0 k l (l.length : Int) 0 = some (-1) := h2
   rw [h2']
   simp only [Option.bind_some]; congr 1; symm
   rw [decide_eq_false (by omega : ¬ (-1 : Int) ≥ 0), Bool.not_false, wordsB, decide_eq_true h, Bool.true_and, List.all_eq_true]
   intro x hx
   obtain ⟨j, hj, rfl⟩ := List.getElem_of_mem hx
   have := Classical.not_not.1 (h1 j (Nat.zero_le _) hj); rw [rd_nat l j hj] at this; exact decide_eq_true this
 ·rw [if_neg h, wordsB, decide_eq_false h, Bool.false_and]
theorem memOk_eq (l : List Int) (hl : l.length ≤ 2097152) (k : Nat) (hk : l.length < k) : impl_memOk.f k l = some (wordsB l 24) := by
 unfold impl_memOk.f; rw [wordsOk_eq l 24 hl k hk]; rfl
def twoB (l : List Int) : List Int := l.flatMap fun x => [x / 256 % 256, x % 256]
theorem twoB_length (l : List Int) : (twoB l).length = 2 * l.length := by
 induction l with
 | nil => rfl
 | cons x l ih => simp [twoB] at ih ⊢; omega
theorem twoB_snoc (l : List Int) (x : Int) : twoB (l ++ [x]) = twoB l ++ [x / 256 % 256, x % 256] := by simp [twoB]
theorem twoBytes_eq (l : List Int) (hl : l.length ≤ 2097152) (k : Nat) (hk : l.length < k) : impl_twoBytes.f k l = some (twoB l) := by
 unfold impl_twoBytes.f
 have h := for_st l.length (fun k i (s : List Int) => impl_twoBytes.l0 k s l (l.length : Int) (i : Int)) (fun i => twoB (l.take i)) (twoB l) ?_ ?_ k 0 (Nat.zero_le _) (by omega)
 ·simpa [twoB] using h
 ·intro k i hi
  simp only [impl_twoBytes.l0]
  rw [if_pos (by omega), if_pos (by omega), if_pos (by omega), Option.bind_some, if_pos (by rw [twoB_length, List.length_take]; simp; omega), wrap_succ (by omega), rd_nat l i hi, ← twoB_snoc, snoc_step l i hi]
 ·intro k
  simp only [impl_twoBytes.l0]
  rw [if_neg (by omega)]; simp
def memB (l : List Int) : List Int := if wordsB l 24 = true then twoB l else []
theorem implMemBytes_eq (l : List Int) (hl : l.length ≤ 2097152) (k : Nat) (hk : l.length < k) : impl_MemBytes.f k l = some (memB l) := by
 unfold impl_MemBytes.f memB
 rw [memOk_eq l hl k hk, Option.bind_some]
 by_cases hw : wordsB l 24 = true
 ·rw [if_pos hw, if_pos hw, twoBytes_eq l hl k hk]; rfl
 ·rw [if_neg hw, if_neg hw]
theorem insOkB_bounds {o r a b n : Int} (h : insOkB o r a b n = true) : 1 ≤ o ∧ o ≤ 10 ∧ 0 ≤ r ∧ r ≤ 3 ∧ 0 ≤ a ∧ a ≤ 3 ∧ 0 ≤ b ∧ b ≤ 3 ∧ 0 ≤ n ∧ n ≤ 63 := by
 unfold insOkB at h
 simp only [Bool.and_eq_true, decide_eq_true_eq] at h
 obtain ⟨h0, ⟨h1, h1'⟩, ⟨h2, h2'⟩, ⟨h3, h3'⟩, ⟨h4, h4'⟩⟩ := h
 refine ⟨?_, ?_, h1, h1', h2, h2', h3, h3', h4, h4'⟩
 ·by_cases c : 1 ≤ o
  ·exact c
  ·exfalso
   rw [if_neg (by omega), if_neg (by omega), if_neg (by omega), if_neg (by omega), if_neg (by omega), if_neg (by omega), if_neg (by omega), if_neg (by omega), if_neg (by omega), if_neg (by omega)] at h0
   cases h0
 ·by_cases c : o ≤ 10
  ·exact c
  ·exfalso
   rw [if_neg (by omega), if_neg (by omega), if_neg (by omega), if_neg (by omega), if_neg (by omega), if_neg (by omega), if_neg (by omega), if_neg (by omega), if_neg (by omega), if_neg (by omega)] at h0
   cases h0
theorem ite_some (b c : Bool) : (if b = true then some c else some false) = some (b && c) := by cases b <;> rfl
theorem l8Field_eq (x m : Int) (h : Bool) : spec_l8Field.f x m h = some (decide (0 ≤ x ∧ x ≤ m) && (h || decide (x = 0))) := by
 unfold spec_l8Field.f
 rw [l1In_eq, Option.bind_some]
 have e : (x == 0) = decide (x = 0) := rfl
 rw [e]
 cases h <;> simp only [if_true, Bool.false_eq_true, if_false, Bool.true_or, Bool.false_or, ite_some]
theorem specInsOk_eq (o r a b n : Int) : spec_InsOk.f o r a b n = some (insOkB o r a b n) := by
 unfold spec_InsOk.f spec_l8Has.f
 simp only [l1In_eq, l8Field_eq, Option.bind_some, ite_some]
 by_cases ho : 1 ≤ o ∧ o ≤ 10
 ·have hc : o = 1 ∨ o = 2 ∨ o = 3 ∨ o = 4 ∨ o = 5 ∨ o = 6 ∨ o = 7 ∨ o = 8 ∨ o = 9 ∨ o = 10 := by omega
  rw [decide_eq_true ho]
  rcases hc with rfl | rfl | rfl | rfl | rfl | rfl | rfl | rfl | rfl | rfl <;>
   (simp only [if_true, Option.bind_some, List.length_cons, List.length_nil]
    rw [if_pos (by omega), if_pos (by omega)]
    simp only [rd, Option.bind_some, Bool.true_and]
    congr 1
    rw [Bool.eq_iff_iff]
    simp [insOkB, show Go.bits .and .i64 0 1 = 0 by decide, show Go.bits .and .i64 0 2 = 0 by decide, show Go.bits .and .i64 0 4 = 0 by decide, show Go.bits .and .i64 0 8 = 0 by decide,
     show Go.bits .and .i64 7 1 = 1 by decide, show Go.bits .and .i64 7 2 = 2 by decide, show Go.bits .and .i64 7 4 = 4 by decide, show Go.bits .and .i64 7 8 = 0 by decide,
     show Go.bits .and .i64 8 1 = 0 by decide, show Go.bits .and .i64 8 2 = 0 by decide, show Go.bits .and .i64 8 4 = 0 by decide, show Go.bits .and .i64 8 8 = 8 by decide,
     show Go.bits .and .i64 9 1 = 1 by decide, show Go.bits .and .i64 9 2 = 0 by decide, show Go.bits .and .i64 9 4 = 0 by decide, show Go.bits .and .i64 9 8 = 8 by decide,
     show Go.bits .and .i64 10 1 = 0 by decide, show Go.bits .and .i64 10 2 = 2 by decide, show Go.bits .and .i64 10 4 = 0 by decide, show Go.bits .and .i64 10 8 = 8 by decide,
     show Go.bits .and .i64 11 1 = 1 by decide, show Go.bits .and .i64 11 2 = 2 by decide, show Go.bits .and .i64 11 4 = 0 by decide, show Go.bits .and .i64 11 8 = 8 by decide,
     show Go.bits .and .i64 14 1 = 0 by decide, show Go.bits .and .i64 14 2 = 2 by decide, show Go.bits .and .i64 14 4 = 4 by decide, show Go.bits .and .i64 14 8 = 8 by decide,
     show Go.bits .and .i64 15 1 = 1 by decide, show Go.bits .and .i64 15 2 = 2 by decide, show Go.bits .and .i64 15 4 = 4 by decide, show Go.bits .and .i64 15 8 = 8 by decide]
    try omega)
 ·have hn : ∀ c, 1 ≤ c → c ≤ 10 → o ≠ c := fun c h1 h2 e => ho (by omega)
  simp [ho, insOkB, hn]
def codeW (o r a b n : Int) : Int := if insOkB o r a b n = true then o + 16 * r + 64 * a + 256 * b + 1024 * n else 0
theorem implCode_eq (o r a b n : Int) : impl_Code.f o r a b n = some (codeW o r a b n, insOkB o r a b n) := by
 unfold impl_Code.f impl_InsOk.f codeW
 rw [Option.bind_some]
 by_cases h : insOkB o r a b n = true
 ·have hb := insOkB_bounds h
  rw [if_pos h, if_pos h, h]
  congr 2
  simp only [wrap_small (x := 16 * r) (by omega) (by omega), wrap_small (x := 64 * a) (by omega) (by omega), wrap_small (x := 256 * b) (by omega) (by omega), wrap_small (x := 1024 * n) (by omega) (by omega), wrap_small (x := o + 16 * r) (by omega) (by omega), wrap_small (x := o + 16 * r + 64 * a) (by omega) (by omega), wrap_small (x := o + 16 * r + 64 * a + 256 * b) (by omega) (by omega), wrap_small (x := o + 16 * r + 64 * a + 256 * b + 1024 * n) (by omega) (by omega)]
 ·have h' : insOkB o r a b n = false := by simpa using h
  rw [if_neg h, if_neg h, h']
theorem rdIns (l : List S59) (i : Nat) (h : i < l.length) : rd_T59 l (i : Int) = l[i] := by
 unfold rd_T59; simp [List.getD, h]
def insW (x : S59) : Int := codeW x.f0 x.f1 x.f2 x.f3 x.f4
theorem coded_l (l : List S59) (hl : l.length ≤ 2097152) (k : Nat) (hk : l.length < k) : impl_coded.l0 k [] l (l.length : Int) 0 = some (l.map insW, true) := by
 have h := for_st l.length (fun k i (s : List Int) => impl_coded.l0 k s l (l.length : Int) (i : Int)) (fun i => (l.take i).map insW) (l.map insW, true) ?_ ?_ k 0 (Nat.zero_le _) (by omega)
 ·simpa using h
 ·intro k i hi
  simp only [impl_coded.l0]
  rw [if_pos (by omega), if_pos (by omega), if_pos (by omega), implCode_eq, Option.bind_some, if_pos (by simp; omega), wrap_succ (by omega), rdIns l i hi]
  rw [← snoc_step l i hi, List.map_append]; rfl
 ·intro k
  simp only [impl_coded.l0]
  rw [if_neg (by omega)]; simp
def codedB (cell times at_ : Int) (n : Nat) : Bool := decide (0 ≤ cell ∧ cell ≤ 23) && (decide (1 ≤ times ∧ times ≤ 63) && (decide (0 ≤ at_ ∧ at_ ≤ 24 - (n : Int)) && !decide (at_ ≤ cell ∧ cell ≤ at_ + (n : Int) - 1)))
theorem coded_eq (cell times at_ : Int) (l : List S59) (hl : l.length ≤ 1000) (k : Nat) (hk : l.length + 1 < k) :
  impl_coded.f k cell times at_ l = some (if codedB cell times at_ l.length = true then l.map insW else [], codedB cell times at_ l.length) := by
 obtain ⟨k, rfl⟩ : ∃ m, k = m + 1 := ⟨k - 1, by omega⟩
 unfold impl_coded.f codedB
 simp only [isCell_eq, from_eq, Option.bind_some, impl_coded.j0]
 rw [wrap_small (x := 24 - (l.length : Int)) (by omega) (by omega)]
 by_cases h1 : 0 ≤ cell ∧ cell ≤ 23
 ·rw [decide_eq_true h1, if_pos rfl]
  by_cases h2 : 1 ≤ times ∧ times ≤ 63
  ·rw [decide_eq_true h2, if_pos rfl]
   by_cases h3 : 0 ≤ at_ ∧ at_ ≤ 24 - (l.length : Int)
   ·rw [decide_eq_true h3, if_pos rfl, wrap_small (x := at_ + (l.length : Int)) (by omega) (by omega), wrap_small (x := at_ + (l.length : Int) - 1) (by omega) (by omega)]
    by_cases h4 : at_ ≤ cell ∧ cell ≤ at_ + (l.length : Int) - 1
    ·rw [decide_eq_true h4, if_pos rfl]; rfl
    ·rw [decide_eq_false h4, if_neg (by simp), coded_l l (by omega) k (by omega)]; rfl
   ·rw [decide_eq_false h3]; rfl
  ·rw [decide_eq_false h2]; rfl
 ·rw [decide_eq_false h1]; rfl
def countCodeIns (a0 a1 a2 : Int) : List S59 := [(⟨1, 0, 0, 0, a1⟩ : S59), (⟨1, 1, 0, 0, 1⟩ : S59), (⟨6, 2, 3, 1, a0⟩ : S59), (⟨10, 0, 0, 1, 0⟩ : S59), (⟨7, 0, 0, 0, wrap64 (a2 + 6)⟩ : S59), (⟨8, 0, 0, 0, wrap64 (a2 + 2)⟩ : S59), (⟨9, 0, 0, 0, 0⟩ : S59)]
def countCodeW (a0 a1 a2 : Int) : List Int := if codedB a0 a1 a2 7 = true then (countCodeIns a0 a1 a2).map insW else []
theorem countCodeW_length (a0 a1 a2 : Int) : (countCodeW a0 a1 a2).length ≤ 7 := by
 unfold countCodeW; by_cases h : codedB a0 a1 a2 7 = true
 ·rw [if_pos h]; simp [countCodeIns]
 ·rw [if_neg h]; simp
theorem implCountCode_eq (a0 a1 a2 : Int) (k : Nat) (hk : 20 < k) : impl_CountCode.f k a0 a1 a2 = some (countCodeW a0 a1 a2, codedB a0 a1 a2 7) := by
 have h := coded_eq a0 a1 a2 (countCodeIns a0 a1 a2) (by simp [countCodeIns]) k (by simp [countCodeIns]; omega)
 unfold impl_CountCode.f
 have h' : impl_coded.f k a0 a1 a2 [(⟨1, 0, 0, 0, a1⟩ : S59), (⟨1, 1, 0, 0, 1⟩ : S59), (⟨6, 2, 3, 1, a0⟩ : S59), (⟨10, 0, 0, 1, 0⟩ : S59), (⟨7, 0, 0, 0, wrap64 (a2 + 6)⟩ : S59), (⟨8, 0, 0, 0, wrap64 (a2 + 2)⟩ : S59), (⟨9, 0, 0, 0, 0⟩ : S59)] = some (countCodeW a0 a1 a2, codedB a0 a1 a2 7) := h
 rw [h']; rfl
def loseCodeIns (a0 a1 a2 : Int) : List S59 := [(⟨1, 0, 0, 0, a1⟩ : S59), (⟨1, 1, 0, 0, 1⟩ : S59), (⟨4, 2, 3, 0, a0⟩ : S59), (⟨2, 2, 2, 1, 0⟩ : S59), (⟨5, 0, 3, 2, a0⟩ : S59), (⟨10, 0, 0, 1, 0⟩ : S59), (⟨7, 0, 0, 0, wrap64 (a2 + 8)⟩ : S59), (⟨8, 0, 0, 0, wrap64 (a2 + 2)⟩ : S59), (⟨9, 0, 0, 0, 0⟩ : S59)]
def loseCodeW (a0 a1 a2 : Int) : List Int := if codedB a0 a1 a2 9 = true then (loseCodeIns a0 a1 a2).map insW else []
theorem loseCodeW_length (a0 a1 a2 : Int) : (loseCodeW a0 a1 a2).length ≤ 9 := by
 unfold loseCodeW; by_cases h : codedB a0 a1 a2 9 = true
 ·rw [if_pos h]; simp [loseCodeIns]
 ·rw [if_neg h]; simp
theorem implLoseCode_eq (a0 a1 a2 : Int) (k : Nat) (hk : 20 < k) : impl_LoseCode.f k a0 a1 a2 = some (loseCodeW a0 a1 a2, codedB a0 a1 a2 9) := by
 have h := coded_eq a0 a1 a2 (loseCodeIns a0 a1 a2) (by simp [loseCodeIns]) k (by simp [loseCodeIns]; omega)
 unfold impl_LoseCode.f
 have h' : impl_coded.f k a0 a1 a2 [(⟨1, 0, 0, 0, a1⟩ : S59), (⟨1, 1, 0, 0, 1⟩ : S59), (⟨4, 2, 3, 0, a0⟩ : S59), (⟨2, 2, 2, 1, 0⟩ : S59), (⟨5, 0, 3, 2, a0⟩ : S59), (⟨10, 0, 0, 1, 0⟩ : S59), (⟨7, 0, 0, 0, wrap64 (a2 + 8)⟩ : S59), (⟨8, 0, 0, 0, wrap64 (a2 + 2)⟩ : S59), (⟨9, 0, 0, 0, 0⟩ : S59)] = some (loseCodeW a0 a1 a2, codedB a0 a1 a2 9) := h
 rw [h']; rfl
def placeB (m : List Int) (at' : Int) (c : List Int) : Bool := wordsB m 24 && (decide (0 ≤ at' ∧ at' + (c.length : Int) ≤ 24) && wordsB c (c.length : Int))
def splice (m : List Int) (a : Nat) (c : List Int) : List Int := m.take a ++ (c ++ m.drop (a + c.length))
def placeV (m : List Int) (at' : Int) (c : List Int) : List Int × Bool := if placeB m at' c = true then (splice m at'.toNat c, true) else (m, false)
theorem placeB_parts {m : List Int} {at' : Int} {c : List Int} (h : placeB m at' c = true) : wordsB m 24 = true ∧ (0 ≤ at' ∧ at' + (c.length : Int) ≤ 24) ∧ wordsB c (c.length : Int) = true := by
 unfold placeB at h; rw [Bool.and_eq_true, Bool.and_eq_true] at h; exact ⟨h.1, of_decide_eq_true h.2.1, h.2.2⟩
theorem implPlace_eq (m : List Int) (at' : Int) (c : List Int) (hm : m.length ≤ 1048576) (hc : c.length ≤ 1048576) (k : Nat) (hk : 3000000 < k) : impl_Place.f k m at' c = some (placeV m at' c) := by
 unfold impl_Place.f placeV slices_Clone_int_int.f
 rw [if_pos (by omega), Option.bind_some, memOk_eq m (by omega) k (by omega), Option.bind_some]
 by_cases w : wordsB m 24 = true
 ·have ln := wordsB_24 w
  rw [if_pos w, from_eq, Option.bind_some]
  by_cases hf : 0 ≤ at' ∧ at' ≤ 24
  ·rw [if_pos (decide_eq_true hf), wrap_small (by omega) (by omega)]
   by_cases hg : (c.length : Int) > 24 - at'
   ·rw [if_pos hg, if_neg]
    intro hp; have := (placeB_parts hp).2.1; omega
   ·rw [if_neg hg, wordsOk_eq c _ (by omega) k (by omega), Option.bind_some]
    by_cases wc : wordsB c (c.length : Int) = true
    ·rw [if_pos wc, if_pos hf.1, if_pos (by omega), if_pos (by omega), if_pos]
     ·rfl
     ·unfold placeB; rw [w, wc, decide_eq_true ⟨hf.1, by omega⟩]; rfl
    ·rw [if_neg wc, if_neg]
     intro hp; exact wc (placeB_parts hp).2.2
  ·rw [if_neg (by simpa using hf), if_neg]
   intro hp; have := (placeB_parts hp).2.1; omega
 ·rw [if_neg w, if_neg]
  intro hp; exact w (placeB_parts hp).1
theorem implHartOk_eq (regs : List Int) (pc st : Int) (hl : regs.length ≤ 2097152) (k : Nat) (hk : regs.length < k) : impl_HartOk.f k regs pc st = some (hartB regs pc st) := by
 unfold impl_HartOk.f hartB
 simp only [wordsOk_eq regs 4 hl k hk, isCell_eq, from_eq, Option.bind_some, ite_some']
theorem specHartOk_eq (regs : List Int) (pc st : Int) (hl : regs.length ≤ 2097152) (k : Nat) (hk : regs.length < k) : spec_HartOk.f k regs pc st = some (hartB regs pc st) := by
 unfold spec_HartOk.f hartB
 simp only [l1Words_eq regs 4 hl k hk, l1In_eq, Option.bind_some, ite_some']
def hartBytesV (r : List Int) (p s : Int) : List Int := if hartB r p s = true then twoB r ++ [p % 256, s % 256] else []
theorem implHartBytes_eq (r : List Int) (p s : Int) (hl : r.length ≤ 1048576) (k : Nat) (hk : 1048600 < k) : impl_HartBytes.f k r p s = some (hartBytesV r p s) := by
 unfold impl_HartBytes.f hartBytesV
 rw [implHartOk_eq r p s (by omega) k (by omega), Option.bind_some]
 by_cases h : hartB r p s = true
 ·rw [if_pos h, if_pos h, twoBytes_eq r (by omega) k (by omega), Option.bind_some, Option.bind_some, if_pos (by rw [twoB_length, hartB_len h]; show 2 * 4 + 2 < _; omega)]
 ·rw [if_neg h, if_neg h]
theorem sameInts_same (l : List Int) (hl : l.length ≤ 1048576) (k : Nat) (hk : 1048580 < k) : laws_sameInts.f k l l = some true := by
 unfold laws_sameInts.f
 rw [if_pos rfl]
 refine same_loop (C := 0) (n := l.length) (fun k i => laws_sameInts.l0 k l l (i : Int)) ?_ ?_ k (by omega)
 ·intro k i hi _
  simp only [laws_sameInts.l0]
  rw [if_pos (by omega), if_pos (by omega), if_pos (by omega), if_pos trivial, wrap_succ (by omega)]
 ·intro k
  simp only [laws_sameInts.l0]
  rw [if_neg (by omega)]
theorem implAddress_eq (n : Int) : impl_address.f n = some (n % 24) := by
 unfold impl_address.f
 have b := tmod_bd n 24 (by omega)
 rw [wrap_small (by omega) (by omega), tmod_up n 24 (by omega) (by omega)]
theorem implWrapped_eq (n : Int) : impl_wrapped.f n = some (n % 65536) := by
 unfold impl_wrapped.f
 have b := tmod_bd n 65536 (by omega)
 rw [wrap_small (x := Int.tmod n 65536 + 65535) (by omega) (by omega), wrap_small (by omega) (by omega), show Int.tmod n 65536 + 65535 + 1 = Int.tmod n 65536 + 65536 by omega, tmod_up n 65536 (by omega) (by omega)]
def opV (r : List Int) (pc st : Int) (o i a b n got : Int) : List Int × Int × Int × Int :=
 if o = 1 then (r.set i.toNat n, (pc + 1) % 24, st, -1)
 else if o = 2 then (r.set i.toNat ((rd r a + rd r b) % 65536), (pc + 1) % 24, st, -1)
 else if o = 10 then (r.set i.toNat ((rd r a - rd r b) % 65536), (pc + 1) % 24, st, -1)
 else if o = 3 then (r.set i.toNat ((rd r a + n) % 65536), (pc + 1) % 24, st, -1)
 else if o = 4 then (r.set i.toNat got, (pc + 1) % 24, st, -1)
 else if o = 5 then (r, (pc + 1) % 24, st, rd r b)
 else if o = 6 then (r.set i.toNat got, (pc + 1) % 24, st, (got + rd r b) % 65536)
 else if o = 7 then (if rd r a = 0 then (r, n % 24, st, -1) else (r, (pc + 1) % 24, st, -1))
 else if o = 8 then (r, n % 24, st, -1)
 else if o = 9 then (r, pc, 1, -1)
 else (r, (pc + 1) % 24, st, -1)
def workV (r : List Int) (pc st : Int) (o i a b n got : Int) : List Int × Int × Int × Int :=
 if hartB r pc st = true ∧ st = 0 ∧ (0 ≤ got ∧ got ≤ 65535) then (if insOkB o i a b n = true then opV r pc st o i a b n got else (r, pc, 2, -1)) else (r, pc, st, -1)
theorem hartB_parts {r : List Int} {p s : Int} (h : hartB r p s = true) : r.length = 4 ∧ (∀ x, x ∈ r → 0 ≤ x ∧ x ≤ 65535) ∧ (0 ≤ p ∧ p ≤ 23) ∧ (0 ≤ s ∧ s ≤ 2) := by
 have l := hartB_len h
 unfold hartB at h; rw [Bool.and_eq_true, Bool.and_eq_true] at h
 exact ⟨l, fun x hx => wordsB_mem h.1 x hx, of_decide_eq_true h.2.1, of_decide_eq_true h.2.2⟩
theorem rd_word {r : List Int} (hw : ∀ x, x ∈ r → 0 ≤ x ∧ x ≤ 65535) (i : Int) : 0 ≤ rd r i ∧ rd r i ≤ 65535 := by
 unfold rd
 rw [List.getD_eq_getElem?_getD]
 cases h : r[i.toNat]? with
 | none => simp
 | some x => exact hw x (List.mem_of_getElem? h)
theorem implWork_j2 (k : Nat) (r : List Int) (pc st o i a b n got : Int) (hr : r.length = 4) (hw : ∀ x, x ∈ r → 0 ≤ x ∧ x ≤ 65535) (hg : 0 ≤ got ∧ got ≤ 65535) (hi : 0 ≤ i ∧ i ≤ 3) (hn : 0 ≤ n ∧ n ≤ 63) :
  impl_Work.j2 (k + 2) got (rd r a) (rd r b) (-1) ((pc + 1) % 24) o r pc st o i a b n = some (opV r pc st o i a b n got) := by
 have wa := rd_word hw a
 have wb := rd_word hw b
 rw [impl_Work.j2]
 unfold opV
 rw [wrap_small (x := rd r a + rd r b) (by omega) (by omega), wrap_small (x := rd r a - rd r b) (by omega) (by omega), wrap_small (x := rd r a + n) (by omega) (by omega), wrap_small (x := got + rd r b) (by omega) (by omega)]
 simp only [implWrapped_eq, implAddress_eq, Option.bind_some]
 have h1 : i < (r.length : Int) := by omega
 simp only [if_pos hi.1, if_pos h1]
 by_cases c1 : o = 1
 ·rw [if_pos c1, if_pos c1]
  all_goals (try rw [impl_Work.j3])
 rw [if_neg c1, if_neg c1]
 by_cases c2 : o = 2
 ·rw [if_pos c2, if_pos c2]
  all_goals (try rw [impl_Work.j3])
 rw [if_neg c2, if_neg c2]
 by_cases c3 : o = 10
 ·rw [if_pos c3, if_pos c3]
  all_goals (try rw [impl_Work.j3])
 rw [if_neg c3, if_neg c3]
 by_cases c4 : o = 3
 ·rw [if_pos c4, if_pos c4]
  all_goals (try rw [impl_Work.j3])
 rw [if_neg c4, if_neg c4]
 by_cases c5 : o = 4
 ·rw [if_pos c5, if_pos c5]
  all_goals (try rw [impl_Work.j3])
 rw [if_neg c5, if_neg c5]
 by_cases c6 : o = 5
 ·rw [if_pos c6, if_pos c6]
  all_goals (try rw [impl_Work.j3])
 rw [if_neg c6, if_neg c6]
 by_cases c7 : o = 6
 ·rw [if_pos c7, if_pos c7]
  all_goals (try rw [impl_Work.j3])
 rw [if_neg c7, if_neg c7]
 by_cases c8 : o = 7
 ·rw [if_pos c8, if_pos c8]
  by_cases c : rd r a = 0
  ·rw [if_pos c, if_pos c]
   all_goals (try rw [impl_Work.j3])
  ·rw [if_neg c, if_neg c]
   all_goals (try rw [impl_Work.j3])
 rw [if_neg c8, if_neg c8]
 by_cases c9 : o = 8
 ·rw [if_pos c9, if_pos c9]
  all_goals (try rw [impl_Work.j3])
 rw [if_neg c9, if_neg c9]
 by_cases c10 : o = 9
 ·rw [if_pos c10, if_pos c10]
  all_goals (try rw [impl_Work.j3])
 rw [if_neg c10, if_neg c10]
 all_goals (try rw [impl_Work.j3])
theorem implWork_eq (r : List Int) (pc st o i a b n got : Int) (hl : r.length ≤ 2097152) (k : Nat) (hk : r.length + 10 < k) : impl_Work.f k r pc st o i a b n got = some (workV r pc st o i a b n got) := by
 obtain ⟨k, rfl⟩ : ∃ m, k = m + 4 := ⟨k - 4, by omega⟩
 unfold impl_Work.f impl_copyHart.f slices_Clone_int_int.f workV
 rw [if_pos (by omega), Option.bind_some, Option.bind_some]
 simp only [implHartOk_eq r pc st (by omega) (k + 4) (by omega), Option.bind_some]
 have jt : impl_Work.j0 (k + 4) got true r pc st o i a b n = some (r, pc, st, -1) := by rw [impl_Work.j0, if_pos rfl]
 by_cases h : hartB r pc st = true
 ·obtain ⟨p1, p2, p3, p4⟩ := hartB_parts h
  rw [if_pos h]
  by_cases hs : st = 0
  ·rw [if_pos hs, isWord_eq, Option.bind_some]
   by_cases hg : 0 ≤ got ∧ got ≤ 65535
   ·rw [if_pos ⟨h, hs, hg⟩, decide_eq_true hg, Bool.not_true, impl_Work.j0, if_neg (by simp)]
    unfold impl_InsOk.f
    rw [Option.bind_some]
    by_cases hi : insOkB o i a b n = true
    ·obtain ⟨b0, b0', b1, b1', b2, b2', b3, b3', b4, b4'⟩ := insOkB_bounds hi
     rw [if_pos hi, hi, Bool.not_true, impl_Work.j1, if_neg (by simp), if_pos b2, if_pos (by omega), if_pos b3, if_pos (by omega), implAddress_eq, Option.bind_some, wrap_small (x := pc + 1) (by omega) (by omega)]
     exact implWork_j2 k r pc st o i a b n got p1 p2 hg ⟨b1, b1'⟩ ⟨b4, b4'⟩
    ·have hi' : insOkB o i a b n = false := by simpa using hi
     rw [if_neg hi, hi', Bool.not_false, impl_Work.j1, if_pos rfl]
   ·rw [if_neg (fun c => hg c.2.2), decide_eq_false hg, Bool.not_false, jt]
  ·rw [if_neg hs, jt, if_neg (fun c => hs c.2.1)]
 ·rw [if_neg h, jt, if_neg (fun c => h c.1)]
def decodeB (w : Int) : Bool := decide (0 ≤ w ∧ w ≤ 65535) && insOkB (w % 16) (w / 16 % 4) (w / 64 % 4) (w / 256 % 4) (w / 1024)
def decodeV (w : Int) : Int × Int × Int × Int × Int × Bool := if decodeB w = true then (w % 16, w / 16 % 4, w / 64 % 4, w / 256 % 4, w / 1024, true) else (0, 0, 0, 0, 0, false)
theorem implDecode_eq (w : Int) : impl_Decode.f w = some (decodeV w) := by
 unfold impl_Decode.f decodeV decodeB impl_InsOk.f
 rw [isWord_eq, Option.bind_some]
 by_cases h : 0 ≤ w ∧ w ≤ 65535
 ·rw [decide_eq_true h, if_pos rfl, Bool.true_and]
  have e1 : Int.tmod w 16 = w % 16 := tmod_pos _ _ h.1
  have e2 : Int.tmod (wrap64 (Int.tdiv w 16)) 4 = w / 16 % 4 := by rw [tdiv_pos _ _ h.1, wrap_small (by omega) (by omega), tmod_pos _ _ (by omega)]
  have e3 : Int.tmod (wrap64 (Int.tdiv w 64)) 4 = w / 64 % 4 := by rw [tdiv_pos _ _ h.1, wrap_small (by omega) (by omega), tmod_pos _ _ (by omega)]
  have e4 : Int.tmod (wrap64 (Int.tdiv w 256)) 4 = w / 256 % 4 := by rw [tdiv_pos _ _ h.1, wrap_small (by omega) (by omega), tmod_pos _ _ (by omega)]
  have e5 : wrap64 (Int.tdiv w 1024) = w / 1024 := by rw [tdiv_pos _ _ h.1, wrap_small (by omega) (by omega)]
  rw [e1, e2, e3, e4, e5, Option.bind_some]
  by_cases c : insOkB (w % 16) (w / 16 % 4) (w / 64 % 4) (w / 256 % 4) (w / 1024) = true
  ·rw [if_pos c, if_pos c]
  ·rw [if_neg c, if_neg c]
 ·rw [decide_eq_false h, if_neg (by simp), Bool.false_and, if_neg (by simp)]
def targetV (o i a b n : Int) (r : List Int) : Int := if insOkB o i a b n = true ∧ (o = 4 ∨ o = 5 ∨ o = 6) ∧ r.length = 4 then wrap64 (rd r a + n) % 24 else -1
theorem implTarget_eq (o i a b n : Int) (r : List Int) : impl_Target.f o i a b n r = some (targetV o i a b n r) := by
 unfold impl_Target.f targetV impl_InsOk.f impl_aims.f
 rw [Option.bind_some]
 by_cases h : insOkB o i a b n = true
 ·have hb := insOkB_bounds h
  rw [if_pos h]
  have ha : (if o = 4 then some true else if o = 5 then some true else some (o == 6)) = some (decide (o = 4 ∨ o = 5 ∨ o = 6)) := by
   by_cases c4 : o = 4
   ·rw [if_pos c4, decide_eq_true (.inl c4)]
   ·rw [if_neg c4]
    by_cases c5 : o = 5
    ·rw [if_pos c5, decide_eq_true (.inr (.inl c5))]
    ·rw [if_neg c5]; congr 1; rw [Bool.eq_iff_iff]; simp [c4, c5]
  rw [ha, Option.bind_some]
  by_cases c : o = 4 ∨ o = 5 ∨ o = 6
  ·rw [decide_eq_true c, if_pos rfl]
   by_cases hl : r.length = 4
   ·rw [if_pos (by omega), if_pos (by omega), if_pos (by omega), implAddress_eq, Option.bind_some, if_pos ⟨h, c, hl⟩]
   ·rw [if_neg (by omega), if_neg (fun x => hl x.2.2)]
  ·rw [decide_eq_false c, if_neg (by simp), if_neg (fun x => c x.2.1)]
 ·rw [if_neg h, if_neg (fun x => h x.1)]
abbrev Hh := S29
def hB (h : Hh) : Bool := hartB h.f0 h.f1 h.f2
def gotV (m : List Int) (h : Hh) : Int := if 0 ≤ targetV (decodeV (rd m h.f1)).1 (decodeV (rd m h.f1)).2.1 (decodeV (rd m h.f1)).2.2.1 (decodeV (rd m h.f1)).2.2.2.1 (decodeV (rd m h.f1)).2.2.2.2.1 h.f0 then rd m (targetV (decodeV (rd m h.f1)).1 (decodeV (rd m h.f1)).2.1 (decodeV (rd m h.f1)).2.2.1 (decodeV (rd m h.f1)).2.2.2.1 (decodeV (rd m h.f1)).2.2.2.2.1 h.f0) else 0
def tgtV (m : List Int) (h : Hh) : Int := targetV (decodeV (rd m h.f1)).1 (decodeV (rd m h.f1)).2.1 (decodeV (rd m h.f1)).2.2.1 (decodeV (rd m h.f1)).2.2.2.1 (decodeV (rd m h.f1)).2.2.2.2.1 h.f0
def wkV (m : List Int) (h : Hh) : List Int × Int × Int × Int := workV h.f0 h.f1 h.f2 (decodeV (rd m h.f1)).1 (decodeV (rd m h.f1)).2.1 (decodeV (rd m h.f1)).2.2.1 (decodeV (rd m h.f1)).2.2.2.1 (decodeV (rd m h.f1)).2.2.2.2.1 (gotV m h)
def stepV (m : List Int) (h : Hh) : List Int × Hh := (if 0 ≤ (wkV m h).2.2.2 then m.set (tgtV m h).toNat (wkV m h).2.2.2 else m, ⟨(wkV m h).1, (wkV m h).2.1, (wkV m h).2.2.1⟩)
theorem tgt_range (o i a b n : Int) (r : List Int) : targetV o i a b n r = -1 ∨ 0 ≤ targetV o i a b n r ∧ targetV o i a b n r ≤ 23 := by
 unfold targetV
 by_cases h : insOkB o i a b n = true ∧ (o = 4 ∨ o = 5 ∨ o = 6) ∧ r.length = 4
 ·rw [if_pos h]; right; omega
 ·rw [if_neg h]; left; rfl
theorem put_tgt {r : List Int} {pc st o i a b n got : Int} (h : 0 ≤ (workV r pc st o i a b n got).2.2.2) : 0 ≤ targetV o i a b n r := by
 unfold workV at h
 by_cases c : hartB r pc st = true ∧ st = 0 ∧ (0 ≤ got ∧ got ≤ 65535)
 ·rw [if_pos c] at h
  by_cases hi : insOkB o i a b n = true
  ·rw [if_pos hi] at h
   have hl := hartB_len c.1
   unfold targetV
   by_cases c5 : o = 5
   ·rw [if_pos ⟨hi, .inr (.inl c5), hl⟩]; omega
   ·by_cases c6 : o = 6
    ·rw [if_pos ⟨hi, .inr (.inr c6), hl⟩]; omega
    ·exfalso
     unfold opV at h
     rw [if_neg c5, if_neg c6] at h
     revert h
     split
     ·simp
     split
     ·simp
     split
     ·simp
     split
     ·simp
     split
     ·simp
     split
     ·split <;> simp
     split
     ·simp
     split <;> simp
  ·rw [if_neg hi] at h; simp at h
 ·rw [if_neg c] at h; simp at h
theorem implStep_eq (m : List Int) (h : Hh) (hm : m.length = 24) (hh : hB h = true) (k : Nat) (hk : 20 < k) : impl_step.f k m h.f0 h.f1 h.f2 = some ((stepV m h).2.f0, (stepV m h).2.f1, (stepV m h).2.f2, (stepV m h).1) := by
 obtain ⟨p1, p2, p3, p4⟩ := hartB_parts hh
 unfold impl_step.f stepV
 rw [if_pos p3.1, if_pos (by omega), implDecode_eq, Option.bind_some]
 simp only [implTarget_eq, Option.bind_some]
 rcases tgt_range (decodeV (rd m h.f1)).1 (decodeV (rd m h.f1)).2.1 (decodeV (rd m h.f1)).2.2.1 (decodeV (rd m h.f1)).2.2.2.1 (decodeV (rd m h.f1)).2.2.2.2.1 h.f0 with t | t
 ·rw [if_neg (by omega), implWork_eq _ _ _ _ _ _ _ _ _ (by omega) k (by omega), Option.bind_some]
  have e : gotV m h = 0 := by unfold gotV; rw [if_neg (by omega)]
  unfold wkV; rw [e]
  by_cases c : 0 ≤ (workV h.f0 h.f1 h.f2 (decodeV (rd m h.f1)).1 (decodeV (rd m h.f1)).2.1 (decodeV (rd m h.f1)).2.2.1 (decodeV (rd m h.f1)).2.2.2.1 (decodeV (rd m h.f1)).2.2.2.2.1 0).2.2.2
  ·have := put_tgt c; omega
  ·rw [if_neg c, if_neg c]
 ·have e : gotV m h = rd m (tgtV m h) := by unfold gotV tgtV; rw [if_pos t.1]
  rw [if_pos t.1, if_pos t.1, if_pos (by omega), implWork_eq _ _ _ _ _ _ _ _ _ (by omega) k (by omega), Option.bind_some]
  unfold wkV; rw [e]; unfold tgtV
  by_cases c : 0 ≤ (workV h.f0 h.f1 h.f2 (decodeV (rd m h.f1)).1 (decodeV (rd m h.f1)).2.1 (decodeV (rd m h.f1)).2.2.1 (decodeV (rd m h.f1)).2.2.2.1 (decodeV (rd m h.f1)).2.2.2.2.1 (rd m (targetV (decodeV (rd m h.f1)).1 (decodeV (rd m h.f1)).2.1 (decodeV (rd m h.f1)).2.2.1 (decodeV (rd m h.f1)).2.2.2.1 (decodeV (rd m h.f1)).2.2.2.2.1 h.f0))).2.2.2
  ·rw [if_pos c, if_pos c]
  ·rw [if_neg c, if_neg c]
theorem rdH (l : List Hh) (i : Nat) (h : i < l.length) : rd_T29 l (i : Int) = l[i] := by
 unfold rd_T29; simp [List.getD, h]
def goB (h : Hh) : Bool := hB h && (h.f2 == 0)
def mayGo (hs : List Hh) (i : Int) : Prop := 0 ≤ i ∧ i < (hs.length : Int) ∧ goB (rd_T29 hs i) = true
instance (hs : List Hh) (i : Int) : Decidable (mayGo hs i) := by unfold mayGo; infer_instance
theorem rdH_mem (l : List Hh) (i : Int) (h0 : 0 ≤ i) (h1 : i < (l.length : Int)) : rd_T29 l i ∈ l := by
 obtain ⟨j, rfl⟩ : ∃ j : Nat, i = (j : Int) := ⟨i.toNat, by omega⟩
 rw [rdH l j (by omega)]; exact List.getElem_mem _
def flatV (m : List Int) (h : Hh) : List Int × Hh := if wordsB m 24 = true ∧ goB h = true then stepV m h else (m, h)
theorem hartB_mk {r : List Int} {p s : Int} (h1 : r.length = 4) (h2 : ∀ x ∈ r, 0 ≤ x ∧ x ≤ 65535) (h3 : 0 ≤ p ∧ p ≤ 23) (h4 : 0 ≤ s ∧ s ≤ 2) : hartB r p s = true := by
 unfold hartB wordsB
 rw [decide_eq_true h3, decide_eq_true h4, decide_eq_true (by omega), List.all_eq_true.2 fun x hx => decide_eq_true (h2 x hx)]; rfl
theorem set_word {r : List Int} {i : Nat} {v : Int} (h2 : ∀ x ∈ r, 0 ≤ x ∧ x ≤ 65535) (hv : 0 ≤ v ∧ v ≤ 65535) : ∀ x ∈ r.set i v, 0 ≤ x ∧ x ≤ 65535 := fun x hx => by
 rcases List.mem_or_eq_of_mem_set hx with hx | rfl
 ·exact h2 x hx
 ·exact hv
theorem workV_ok (r : List Int) (pc st o i a b n got : Int) (h : hartB r pc st = true) : hartB (workV r pc st o i a b n got).1 (workV r pc st o i a b n got).2.1 (workV r pc st o i a b n got).2.2.1 = true ∧ (workV r pc st o i a b n got).2.2.2 ≤ 65535 := by
 obtain ⟨p1, p2, p3, p4⟩ := hartB_parts h
 have wa := rd_word p2 a
 have wb := rd_word p2 b
 unfold workV
 by_cases c : hartB r pc st = true ∧ st = 0 ∧ (0 ≤ got ∧ got ≤ 65535)
 ·rw [if_pos c]
  by_cases hi : insOkB o i a b n = true
  ·have q := insOkB_bounds hi
   have hst := c.2.1
   have hg := c.2.2
   have s1 : ∀ v : Int, 0 ≤ v ∧ v ≤ 65535 → hartB (r.set i.toNat v) ((pc + 1) % 24) st = true := fun v hv => hartB_mk (by rw [List.length_set]; exact p1) (set_word p2 hv) (by omega) p4
   rw [if_pos hi]
   unfold opV
   split
   ·exact ⟨s1 _ (by omega), by dsimp only; omega⟩
   split
   ·exact ⟨s1 _ (by omega), by dsimp only; omega⟩
   split
   ·exact ⟨s1 _ (by omega), by dsimp only; omega⟩
   split
   ·exact ⟨s1 _ (by omega), by dsimp only; omega⟩
   split
   ·exact ⟨s1 _ hg, by dsimp only; omega⟩
   split
   ·exact ⟨hartB_mk p1 p2 (by dsimp only; omega) p4, wb.2⟩
   split
   ·exact ⟨s1 _ hg, by dsimp only; omega⟩
   split
   ·split
    ·exact ⟨hartB_mk p1 p2 (by dsimp only; omega) p4, by dsimp only; omega⟩
    ·exact ⟨hartB_mk p1 p2 (by dsimp only; omega) p4, by dsimp only; omega⟩
   split
   ·exact ⟨hartB_mk p1 p2 (by dsimp only; omega) p4, by dsimp only; omega⟩
   split
   ·exact ⟨hartB_mk p1 p2 p3 (by dsimp only; omega), by dsimp only; omega⟩
   ·exact ⟨hartB_mk p1 p2 (by dsimp only; omega) p4, by dsimp only; omega⟩
  ·rw [if_neg hi]; exact ⟨hartB_mk p1 p2 p3 (by dsimp only; omega), by dsimp only; omega⟩
 ·rw [if_neg c]; exact ⟨h, by dsimp only; omega⟩
theorem wordsB_set {m : List Int} {i : Nat} {v : Int} (h : wordsB m 24 = true) (hv : 0 ≤ v ∧ v ≤ 65535) : wordsB (m.set i v) 24 = true := by
 have l := wordsB_24 h
 unfold wordsB
 rw [List.length_set, decide_eq_true (by omega), List.all_eq_true.2 fun x hx => decide_eq_true (set_word (fun x hx => wordsB_mem h x hx) hv x hx)]; rfl
theorem stepV_ok (m : List Int) (h : Hh) (hm : wordsB m 24 = true) (hh : hB h = true) : wordsB (stepV m h).1 24 = true ∧ hB (stepV m h).2 = true := by
 have w := workV_ok h.f0 h.f1 h.f2 (decodeV (rd m h.f1)).1 (decodeV (rd m h.f1)).2.1 (decodeV (rd m h.f1)).2.2.1 (decodeV (rd m h.f1)).2.2.2.1 (decodeV (rd m h.f1)).2.2.2.2.1 (gotV m h) hh
 have e : wkV m h = workV h.f0 h.f1 h.f2 (decodeV (rd m h.f1)).1 (decodeV (rd m h.f1)).2.1 (decodeV (rd m h.f1)).2.2.1 (decodeV (rd m h.f1)).2.2.2.1 (decodeV (rd m h.f1)).2.2.2.2.1 (gotV m h) := rfl
 rw [← e] at w
 unfold stepV
 refine ⟨?_, w.1⟩
 dsimp only
 split
 ·rename_i c; exact wordsB_set hm ⟨c, w.2⟩
 ·exact hm
theorem sAddr_eq (x : Int) : spec_l9Address.f x = some (x % 24) := by
 unfold spec_l9Address.f
 have hb := tmod_bd x 24 (by omega)
 have hu := tmod_up x 24 (by omega) (by omega)
 generalize x.tmod 24 = t at hb hu ⊢
 rw [← hu]
 by_cases c : t < 0
 ·rw [if_pos c, wrap_small (by omega) (by omega), tmod_pos _ _ (by omega), Int.emod_eq_of_lt (by omega) (by omega)]
 ·rw [if_neg c, tmod_pos _ _ (by omega), Int.add_emod_right, Int.emod_eq_of_lt (by omega) (by omega)]
theorem and_word (x : Int) : Go.bits .and .i64 x 65535 = x % 65536 := by
 have e : Go.bits .and .i64 x 65535 = IntKind.i64.wrap (((BitVec.ofInt 64 x &&& BitVec.ofInt 64 (65535 : Int)).toNat : Nat) : Int) := rfl
 have h : (BitVec.ofInt 64 x &&& BitVec.ofInt 64 (65535 : Int)).toNat = (x % 65536).toNat := by
  rw [BitVec.toNat_and, show (BitVec.ofInt 64 (65535 : Int)).toNat = 2 ^ 16 - 1 by decide, Nat.and_two_pow_sub_one_eq_mod, BitVec.toNat_ofInt]
  omega
 rw [e, h, wraps_i64 _ (by omega) (by omega)]
 omega
theorem sWord_eq (x : Int) : spec_l9Word.f x = some (x % 65536) := by
 unfold spec_l9Word.f
 rw [and_word]
theorem specDecode_eq (w : Int) : spec_Decode.f w = some (decodeV w) := by
 unfold spec_Decode.f decodeV decodeB
 rw [l1In_eq, Option.bind_some]
 by_cases h : 0 ≤ w ∧ w ≤ 65535
 ·have e1 : Int.tmod w 16 = w % 16 := tmod_pos _ _ h.1
  have e2 : Int.tmod (wrap64 (Int.tdiv w 16)) 4 = w / 16 % 4 := by rw [tdiv_pos _ _ h.1, wrap_small (by omega) (by omega), tmod_pos _ _ (by omega)]
  have e3 : Int.tmod (wrap64 (Int.tdiv w 64)) 4 = w / 64 % 4 := by rw [tdiv_pos _ _ h.1, wrap_small (by omega) (by omega), tmod_pos _ _ (by omega)]
  have e4 : Int.tmod (wrap64 (Int.tdiv w 256)) 4 = w / 256 % 4 := by rw [tdiv_pos _ _ h.1, wrap_small (by omega) (by omega), tmod_pos _ _ (by omega)]
  have e5 : wrap64 (Int.tdiv w 1024) = w / 1024 := by rw [tdiv_pos _ _ h.1, wrap_small (by omega) (by omega)]
  rw [decide_eq_true h, if_pos rfl, e1, e2, e3, e4, e5, specInsOk_eq, Option.bind_some, Bool.true_and]
  split <;> rfl
 ·rw [decide_eq_false h, if_neg (by simp), Bool.false_and, if_neg (by simp)]
theorem specTarget_eq (o i a b n : Int) (r : List Int) : spec_Target.f o i a b n r = some (targetV o i a b n r) := by
 unfold spec_Target.f targetV
 rw [specInsOk_eq, Option.bind_some]
 by_cases h : insOkB o i a b n = true
 ·have hb := insOkB_bounds h
  rw [if_pos h]
  by_cases hl : r.length = 4
  ·rw [if_pos (by omega)]
   by_cases c4 : o = 4
   ·rw [if_pos c4, if_pos (by omega), if_pos (by omega), sAddr_eq, Option.bind_some, if_pos ⟨h, .inl c4, hl⟩]
   rw [if_neg c4]
   by_cases c5 : o = 5
   ·rw [if_pos c5, if_pos (by omega), if_pos (by omega), sAddr_eq, Option.bind_some, if_pos ⟨h, .inr (.inl c5), hl⟩]
   rw [if_neg c5]
   by_cases c6 : o = 6
   ·rw [if_pos c6, if_pos (by omega), if_pos (by omega), sAddr_eq, Option.bind_some, if_pos ⟨h, .inr (.inr c6), hl⟩]
   ·rw [if_neg c6, if_neg (fun x => by rcases x.2.1 with q | q | q <;> first | exact c4 q | exact c5 q | exact c6 q)]
  ·rw [if_neg (by omega), if_neg (fun x => hl x.2.2)]
 ·rw [if_neg h, if_neg (fun x => h x.1)]
theorem specWork_j1 (k : Nat) (r : List Int) (pc st o i a b n got : Int) (hr : r.length = 4) (hw : ∀ x, x ∈ r → 0 ≤ x ∧ x ≤ 65535) (hg : 0 ≤ got ∧ got ≤ 65535) (hi : 0 ≤ i ∧ i ≤ 3) (hn : 0 ≤ n ∧ n ≤ 63) :
  spec_Work.j1 (k + 2) got (-1) (rd r a) (rd r b) o r pc st o i a b n r ((pc + 1) % 24) st = some (opV r pc st o i a b n got) := by
 have wa := rd_word hw a
 have wb := rd_word hw b
 rw [spec_Work.j1]
 unfold opV
 rw [wrap_small (x := rd r a + rd r b) (by omega) (by omega), wrap_small (x := rd r a - rd r b) (by omega) (by omega), wrap_small (x := rd r a + n) (by omega) (by omega), wrap_small (x := got + rd r b) (by omega) (by omega)]
 simp only [sWord_eq, sAddr_eq, Option.bind_some]
 have h1 : i < (r.length : Int) := by omega
 simp only [if_pos hi.1, if_pos h1]
 by_cases c1 : o = 1
 ·rw [if_pos c1, if_pos c1]
  all_goals (try rw [spec_Work.j2])
 rw [if_neg c1, if_neg c1]
 by_cases c2 : o = 2
 ·rw [if_pos c2, if_pos c2]
  all_goals (try rw [spec_Work.j2])
 rw [if_neg c2, if_neg c2]
 by_cases c3 : o = 10
 ·rw [if_pos c3, if_pos c3]
  all_goals (try rw [spec_Work.j2])
 rw [if_neg c3, if_neg c3]
 by_cases c4 : o = 3
 ·rw [if_pos c4, if_pos c4]
  all_goals (try rw [spec_Work.j2])
 rw [if_neg c4, if_neg c4]
 by_cases c5 : o = 4
 ·rw [if_pos c5, if_pos c5]
  all_goals (try rw [spec_Work.j2])
 rw [if_neg c5, if_neg c5]
 by_cases c6 : o = 5
 ·rw [if_pos c6, if_pos c6]
  all_goals (try rw [spec_Work.j2])
 rw [if_neg c6, if_neg c6]
 by_cases c7 : o = 6
 ·rw [if_pos c7, if_pos c7]
  all_goals (try rw [spec_Work.j2])
 rw [if_neg c7, if_neg c7]
 by_cases c8 : o = 7
 ·rw [if_pos c8, if_pos c8]
  by_cases c : rd r a = 0
  ·rw [if_pos c, if_pos c]
   all_goals (try rw [spec_Work.j2])
  ·rw [if_neg c, if_neg c]
   all_goals (try rw [spec_Work.j2])
 rw [if_neg c8, if_neg c8]
 by_cases c9 : o = 8
 ·rw [if_pos c9, if_pos c9]
  all_goals (try rw [spec_Work.j2])
 rw [if_neg c9, if_neg c9]
 by_cases c10 : o = 9
 ·rw [if_pos c10, if_pos c10]
  all_goals (try rw [spec_Work.j2])
 rw [if_neg c10, if_neg c10]
 all_goals (try rw [spec_Work.j2])
theorem specWork_eq (r : List Int) (pc st o i a b n got : Int) (hl : r.length ≤ 2097152) (k : Nat) (hk : r.length + 10 < k) : spec_Work.f k r pc st o i a b n got = some (workV r pc st o i a b n got) := by
 obtain ⟨k, rfl⟩ : ∃ m, k = m + 4 := ⟨k - 4, by omega⟩
 unfold spec_Work.f spec_l9Copy.f workV
 rw [Option.bind_some, if_pos (by simp; omega), Option.bind_some, List.nil_append]
 simp only [specHartOk_eq r pc st (by omega) (k + 4) (by omega), Option.bind_some]
 have jt : spec_Work.j0 (k + 4) got true r pc st o i a b n r pc st = some (r, pc, st, -1) := by rw [spec_Work.j0, if_pos rfl]
 by_cases h : hartB r pc st = true
 ·obtain ⟨p1, p2, p3, p4⟩ := hartB_parts h
  rw [if_pos h]
  by_cases hs : st = 0
  ·rw [if_pos hs, l1In_eq, Option.bind_some]
   by_cases hg : 0 ≤ got ∧ got ≤ 65535
   ·rw [if_pos ⟨h, hs, hg⟩, decide_eq_true hg, Bool.not_true, spec_Work.j0, if_neg (by simp), wrap_small (x := pc + 1) (by omega) (by omega), sAddr_eq, Option.bind_some, specInsOk_eq, Option.bind_some]
    by_cases hi : insOkB o i a b n = true
    ·obtain ⟨b0, b0', b1, b1', b2, b2', b3, b3', b4, b4'⟩ := insOkB_bounds hi
     rw [if_pos hi, if_pos hi, if_pos b2, if_pos (by omega), if_pos b3, if_pos (by omega)]
     exact specWork_j1 (k + 1) r pc st o i a b n got p1 p2 hg ⟨b1, b1'⟩ ⟨b4, b4'⟩
    ·rw [if_neg hi, if_neg hi]
   ·rw [if_neg (fun c => hg c.2.2), decide_eq_false hg, Bool.not_false, jt]
  ·rw [if_neg hs, jt, if_neg (fun c => hs c.2.1)]
 ·rw [if_neg h, jt, if_neg (fun c => h c.1)]
theorem specFlatStep_eq (m : List Int) (h : Hh) (hm : m.length ≤ 2097152) (hl : h.f0.length ≤ 2097152) (k : Nat) (hk : 2097200 < k) : spec_FlatStep.f k m h.f0 h.f1 h.f2 = some ((flatV m h).1, (flatV m h).2.f0, (flatV m h).2.f1, (flatV m h).2.f2) := by
 obtain ⟨k, rfl⟩ : ∃ j, k = j + 1 := ⟨k - 1, by omega⟩
 unfold spec_FlatStep.f flatV
 rw [Option.bind_some, if_pos (by simp; omega), Option.bind_some, List.nil_append, l1Words_eq m 24 hm (k + 1) (by omega), Option.bind_some]
 have jt : spec_FlatStep.j0 (k + 1) m m true h.f0 h.f1 h.f2 = some (m, h.f0, h.f1, h.f2) := by
  rw [spec_FlatStep.j0, if_pos rfl]
  unfold spec_l9Copy.f
  rw [Option.bind_some, if_pos (by simp; omega), Option.bind_some, List.nil_append]
 by_cases w : wordsB m 24 = true
 ·have l24 := wordsB_24 w
  rw [if_pos w, specHartOk_eq _ _ _ hl (k + 1) (by omega), Option.bind_some]
  by_cases hh : hartB h.f0 h.f1 h.f2 = true
  ·obtain ⟨p1, p2, p3, p4⟩ := hartB_parts hh
   rw [if_pos hh]
   by_cases hs : h.f2 = 0
   ·have g : goB h = true := by unfold goB hB; rw [hh, hs]; rfl
    rw [if_pos ⟨w, g⟩, show (h.f2 != 0) = false by rw [hs]; rfl, spec_FlatStep.j0, if_neg (by simp), if_pos p3.1, if_pos (by omega), specDecode_eq, Option.bind_some, specTarget_eq, Option.bind_some]
    unfold stepV
    rcases tgt_range (decodeV (rd m h.f1)).1 (decodeV (rd m h.f1)).2.1 (decodeV (rd m h.f1)).2.2.1 (decodeV (rd m h.f1)).2.2.2.1 (decodeV (rd m h.f1)).2.2.2.2.1 h.f0 with t | t
    ·have e : gotV m h = 0 := by unfold gotV; rw [if_neg (by omega)]
     rw [if_neg (by omega), specWork_eq _ _ _ _ _ _ _ _ _ (by omega) k (by omega), Option.bind_some]
     unfold wkV; rw [e]
     by_cases c : 0 ≤ (workV h.f0 h.f1 h.f2 (decodeV (rd m h.f1)).1 (decodeV (rd m h.f1)).2.1 (decodeV (rd m h.f1)).2.2.1 (decodeV (rd m h.f1)).2.2.2.1 (decodeV (rd m h.f1)).2.2.2.2.1 0).2.2.2
     ·have := put_tgt c; omega
     ·rw [if_neg c, if_neg c]
    ·have e : gotV m h = rd m (tgtV m h) := by unfold gotV tgtV; rw [if_pos t.1]
     rw [if_pos t.1, if_pos t.1, if_pos (by omega), specWork_eq _ _ _ _ _ _ _ _ _ (by omega) k (by omega), Option.bind_some]
     unfold wkV; rw [e]; unfold tgtV
     by_cases c : 0 ≤ (workV h.f0 h.f1 h.f2 (decodeV (rd m h.f1)).1 (decodeV (rd m h.f1)).2.1 (decodeV (rd m h.f1)).2.2.1 (decodeV (rd m h.f1)).2.2.2.1 (decodeV (rd m h.f1)).2.2.2.2.1 (rd m (targetV (decodeV (rd m h.f1)).1 (decodeV (rd m h.f1)).2.1 (decodeV (rd m h.f1)).2.2.1 (decodeV (rd m h.f1)).2.2.2.1 (decodeV (rd m h.f1)).2.2.2.2.1 h.f0))).2.2.2
     ·rw [if_pos c, if_pos c, if_pos (by omega)]
     ·rw [if_neg c, if_neg c]
   ·have g : ¬ goB h = true := fun q => by unfold goB at q; rw [Bool.and_eq_true] at q; exact hs (by simpa using q.2)
    rw [show (h.f2 != 0) = true by simpa using hs, jt, if_neg (fun q => g q.2)]
  ·have g : ¬ goB h = true := fun q => by unfold goB hB at q; rw [Bool.and_eq_true] at q; exact hh q.1
   rw [if_neg hh, jt, if_neg (fun q => g q.2)]
 ·rw [if_neg w, jt, if_neg (fun q => w q.1)]
theorem rdHrt (l : List S29) (i : Nat) (h : i < l.length) : rd_T29 l (i : Int) = l[i] := by
 unfold rd_T29; simp [List.getD, h]
def hOk (h : S29) : Bool := hartB h.f0 h.f1 h.f2
def hBy (h : S29) : List Int := twoB h.f0 ++ [h.f1 % 256, h.f2 % 256]
theorem hBy_length (h : S29) (c : hOk h = true) : (hBy h).length = 10 := by unfold hBy; rw [List.length_append, twoB_length, hartB_len c]; rfl
def saveB (m : List Int) (hs : List S29) : List Int := if wordsB m 24 = true ∧ hs.length ≤ 8 ∧ hs.all hOk = true then ((hs.length : Int) % 256) :: (twoB m ++ hs.flatMap hBy) else []
theorem implSaveB_l (hs : List S29) (hx : ∀ h ∈ hs, h.f0.length ≤ 1048576) (hn : hs.length ≤ 8) : ∀ (d i : Nat) (acc : List Int) (k : Nat), i + d = hs.length → acc.length ≤ 100 + 10 * i → 2097160 + d < k →
  impl_SaveBytes.l0 k acc hs (hs.length : Int) (i : Int) = some (if (hs.drop i).all hOk = true then acc ++ (hs.drop i).flatMap hBy else [])
 | 0, i, acc, k, hi, ha, hk => by
  obtain ⟨k, rfl⟩ : ∃ m, k = m + 1 := ⟨k - 1, by omega⟩
  rw [impl_SaveBytes.l0, if_neg (by omega), List.drop_of_length_le (by omega)]; simp
 | d + 1, i, acc, k, hi, ha, hk => by
  obtain ⟨k, rfl⟩ : ∃ m, k = m + 1 := ⟨k - 1, by omega⟩
  have hd : hs.drop i = hs[i] :: hs.drop (i + 1) := List.drop_eq_getElem_cons (by omega)
  have hl := hx _ (List.getElem_mem (by omega : i < hs.length))
  rw [impl_SaveBytes.l0, if_pos (by omega), if_pos (by omega), if_pos (by omega), rdHrt hs i (by omega), implHartOk_eq _ _ _ (by omega) k (by omega), Option.bind_some, hd, List.all_cons, List.flatMap_cons]
  by_cases c : hOk hs[i] = true
  ·have c' : hartB hs[i].f0 hs[i].f1 hs[i].f2 = true := c
   have e : hartBytesV hs[i].f0 hs[i].f1 hs[i].f2 = hBy hs[i] := by unfold hartBytesV; rw [if_pos c']; rfl
   have hb := hBy_length _ c
   rw [if_pos c', implHartBytes_eq _ _ _ hl k (by omega), Option.bind_some, e, if_pos (by omega), wrap_succ (by omega), implSaveB_l hs hx hn d (i + 1) _ k (by omega) (by rw [List.length_append, hb]; omega) (by omega), c, Bool.true_and, List.append_assoc]
  ·have c' : ¬ hartB hs[i].f0 hs[i].f1 hs[i].f2 = true := c
   have c2 : hOk hs[i] = false := by simpa using c
   rw [if_neg c', c2, Bool.false_and]; rfl
theorem implSaveBytes_eq (m : List Int) (hs : List S29) (hm : m.length ≤ 1048576) (hx : ∀ h ∈ hs, h.f0.length ≤ 1048576) (hl : hs.length ≤ 1048576) (k : Nat) (hk : 2200000 < k) : impl_SaveBytes.f k m hs = some (saveB m hs) := by
 obtain ⟨k, rfl⟩ : ∃ m, k = m + 1 := ⟨k - 1, by omega⟩
 unfold impl_SaveBytes.f saveB
 rw [memOk_eq m (by omega) _ (by omega), Option.bind_some]
 by_cases hw : wordsB m 24 = true
 ·rw [if_pos hw]
  by_cases hn : hs.length ≤ 8
  ·rw [decide_eq_false (by omega), impl_SaveBytes.j0, if_neg (by simp), Option.bind_some, implMemBytes_eq m (by omega) k (by omega), Option.bind_some]
   have e : memB m = twoB m := by unfold memB; rw [if_pos hw]
   have l24 := wordsB_24 hw
   rw [e, if_pos (by rw [twoB_length, l24]; show 1 + 2 * 24 < _; omega)]
   have h := implSaveB_l hs hx hn hs.length 0 ([(hs.length : Int) % 256] ++ twoB m) k (by omega) (by rw [List.length_append, twoB_length, l24]; show 1 + 2 * 24 ≤ _; omega) (by omega)
   simp only [List.drop_zero] at h
   have h' : impl_SaveBytes.l0 k ([(hs.length : Int) % 256] ++ twoB m) hs (hs.length : Int) 0 = _ := h
   rw [h']
   by_cases c : hs.all hOk = true
   ·rw [if_pos c, if_pos ⟨hw, hn, c⟩]; simp
   ·rw [if_neg c, if_neg (fun hh => c hh.2.2)]
  ·rw [decide_eq_true (by omega), impl_SaveBytes.j0, if_pos rfl, if_neg (fun hh => hn hh.2.1)]
 ·rw [if_neg hw, impl_SaveBytes.j0, if_pos rfl, if_neg (fun hh => hw hh.1)]
theorem contains_eq (l : List Int) (a : Int) (hl : l.length ≤ 4194304) (k : Nat) (hk : l.length < k) : slices_Contains_int_int.f k l a = some (decide (a ∈ l)) := by
 unfold slices_Contains_int_int.f slices_Index_int_int.f
 obtain ⟨v, h1, h2⟩ := idx_any (n := l.length) (fun k i => slices_Index_int_int.l0 k l a (l.length : Int) (i : Int)) (fun i => decide (a = rd l (i : Int))) (fun k i hi hq => by
  have hq := of_decide_eq_false hq
  simp only [slices_Index_int_int.l0]
  rw [if_pos (by omega), if_pos (by omega), if_pos (by omega), if_neg hq, wrap_succ (by omega)]) (fun k i hi hq => by
  have hq := of_decide_eq_true hq
  simp only [slices_Index_int_int.l0]
  rw [if_pos (by omega), if_pos (by omega), if_pos (by omega), if_pos hq]) (fun k => by
  simp only [slices_Index_int_int.l0]
  rw [if_neg (by omega)]) (decide (a ∈ l)) (by
  rw [decide_eq_true_iff, List.mem_iff_getElem]
  refine ⟨fun ⟨j, hj, e⟩ => ⟨j, hj, ?_⟩, fun ⟨j, hj, e⟩ => ⟨j, hj, ?_⟩⟩
  ·rw [decide_eq_true_iff, rd_nat l j hj, e]
  ·rw [decide_eq_true_iff, rd_nat l j hj] at e; exact e.symm) k hk
 have h1' : slices_Index_int_int.l0 k l a (l.length : Int) 0 = some v := h1
 rw [h1', Option.bind_some, h2]
def addL (out : List (List Int)) (x : List Int) : List (List Int) := if 40 ≤ out.length ∨ x ∈ out then out else out ++ [x]
def addAll (out ls : List (List Int)) : List (List Int) := ls.foldl addL out
def absL (out ls : List (List Int)) : Prop := 40 ≤ out.length ∨ ∀ x ∈ ls, x ∈ out
theorem addL_full {out : List (List Int)} (h : 40 ≤ out.length) (x : List Int) : addL out x = out := if_pos (.inl h)
theorem addL_len (out : List (List Int)) (x : List Int) : out.length ≤ (addL out x).length ∧ (out.length ≤ 40 → (addL out x).length ≤ 40) := by
 unfold addL
 split
 ·exact ⟨Nat.le_refl _, id⟩
 ·rename_i h
  have := (not_or.1 h).1
  rw [List.length_append]
  exact ⟨by omega, fun _ => by simp; omega⟩
theorem addL_mem {out : List (List Int)} {y : List Int} (x : List Int) (h : y ∈ out) : y ∈ addL out x := by
 unfold addL
 split
 ·exact h
 ·exact List.mem_append_left _ h
theorem addL_has (out : List (List Int)) (x : List Int) : 40 ≤ (addL out x).length ∨ x ∈ addL out x := by
 unfold addL
 split
 ·assumption
 ·exact .inr (List.mem_append_right _ (List.mem_singleton.2 rfl))
theorem addAll_cons (out : List (List Int)) (x : List Int) (ls : List (List Int)) : addAll out (x :: ls) = addAll (addL out x) ls := rfl
theorem addAll_app (out a b : List (List Int)) : addAll out (a ++ b) = addAll (addAll out a) b := by unfold addAll; rw [List.foldl_append]
theorem addAll_len (ls : List (List Int)) : ∀ out : List (List Int), out.length ≤ (addAll out ls).length ∧ (out.length ≤ 40 → (addAll out ls).length ≤ 40) := by
 induction ls with
 | nil => exact fun _ => ⟨Nat.le_refl _, id⟩
 | cons x ls ih =>
  intro out
  have a := addL_len out x
  have b := ih (addL out x)
  rw [addAll_cons]
  exact ⟨by omega, fun h => b.2 (a.2 h)⟩
theorem addAll_mem {y : List Int} (ls : List (List Int)) : ∀ {out : List (List Int)}, y ∈ out → y ∈ addAll out ls := by
 induction ls with
 | nil => exact fun h => h
 | cons x ls ih => intro out h; exact ih (addL_mem x h)
theorem absL_mono {out : List (List Int)} {ls : List (List Int)} (ls' : List (List Int)) (h : absL out ls) : absL (addAll out ls') ls := by
 rcases h with h | h
 ·exact .inl (Nat.le_trans h (addAll_len ls' out).1)
 ·exact .inr fun x hx => addAll_mem ls' (h x hx)
theorem absL_all (ls : List (List Int)) : ∀ out : List (List Int), absL (addAll out ls) ls := by
 induction ls with
 | nil => exact fun _ => .inr fun x hx => by cases hx
 | cons x ls ih =>
  intro out
  rw [addAll_cons]
  rcases ih (addL out x) with h | h
  ·exact .inl h
  ·rcases addL_has out x with h2 | h2
   ·exact .inl (Nat.le_trans h2 (addAll_len ls _).1)
   ·exact .inr fun y hy => by
     rcases List.mem_cons.1 hy with rfl | hy
     ·exact addAll_mem ls h2
     ·exact h y hy
theorem addL_of {out : List (List Int)} {x : List Int} (h : 40 ≤ out.length ∨ x ∈ out) : addL out x = out := if_pos h
theorem addAll_of (ls : List (List Int)) {out : List (List Int)} (h : absL out ls) : addAll out ls = out := by
 induction ls with
 | nil => rfl
 | cons x ls ih =>
  rw [addAll_cons, addL_of (h.elim .inl fun h => .inr (h x (List.mem_cons_self ..)))]
  exact ih (h.elim .inl fun h => .inr fun y hy => h y (List.mem_cons_of_mem _ hy))
theorem addAll_full {out : List (List Int)} (h : 40 ≤ out.length) (ls : List (List Int)) : addAll out ls = out := addAll_of ls (.inl h)
def runIx (hs : List Hh) : List Nat := (List.range hs.length).filter fun i => decide ((rd_T29 hs (i : Int)).f2 = 0)
def goM (m : List Int) (hs : List Hh) (i : Nat) : List Int := (stepV m (rd_T29 hs (i : Int))).1
def goH (m : List Int) (hs : List Hh) (i : Nat) : List Hh := hs.set i (stepV m (rd_T29 hs (i : Int))).2
def leaves : Nat → List Int → List Hh → List (List Int)
 | 0, m, _ => [m]
 | n + 1, m, hs => if runIx hs = [] then [m] else (runIx hs).flatMap fun i => leaves n (goM m hs i) (goH m hs i)
def okS (m : List Int) (hs : List Hh) : Prop := wordsB m 24 = true ∧ hs.length ≤ 3 ∧ ∀ h ∈ hs, hB h = true
theorem okS_go {m : List Int} {hs : List Hh} (h : okS m hs) {i : Nat} (hi : i < hs.length) : okS (goM m hs i) (goH m hs i) := by
 have hm : rd_T29 hs (i : Int) ∈ hs := rdH_mem hs _ (by omega) (by omega)
 obtain ⟨a, b⟩ := stepV_ok m _ h.1 (h.2.2 _ hm)
 refine ⟨a, by unfold goH; rw [List.length_set]; exact h.2.1, fun x hx => ?_⟩
 rcases List.mem_or_eq_of_mem_set hx with hx | rfl
 ·exact h.2.2 x hx
 ·exact b
def runFrom (hs : List Hh) (i : Nat) : List Nat := ((List.range hs.length).drop i).filter fun j => decide ((rd_T29 hs (j : Int)).f2 = 0)
theorem runFrom_end (hs : List Hh) (i : Nat) (h : hs.length ≤ i) : runFrom hs i = [] := by
 unfold runFrom; rw [List.drop_of_length_le (by rw [List.length_range]; exact h)]; rfl
theorem runFrom_step (hs : List Hh) (i : Nat) (h : i < hs.length) : runFrom hs i = if (rd_T29 hs (i : Int)).f2 = 0 then i :: runFrom hs (i + 1) else runFrom hs (i + 1) := by
 unfold runFrom
 rw [List.drop_eq_getElem_cons (by rw [List.length_range]; exact h), List.getElem_range, List.filter_cons]
 by_cases c : (rd_T29 hs (i : Int)).f2 = 0
 ·rw [if_pos (decide_eq_true c), if_pos c]
 ·rw [if_neg (by simpa using c), if_neg c]
def endF (out : List (List Int)) (m : List Int) (hs : List Hh) (n i : Nat) (mv : Bool) : List (List Int) :=
 if mv = true ∨ runFrom hs i ≠ [] then addAll out ((runFrom hs i).flatMap fun j => leaves n (goM m hs j) (goH m hs j)) else addL out m
theorem leaves_24 : ∀ (n : Nat) (m : List Int) (hs : List Hh), okS m hs → ∀ x ∈ leaves n m hs, x.length = 24
 | 0, m, hs, h, x, hx => by rw [leaves, List.mem_singleton] at hx; rw [hx]; exact wordsB_24 h.1
 | n + 1, m, hs, h, x, hx => by
  rw [leaves] at hx
  split at hx
  ·rw [List.mem_singleton] at hx; rw [hx]; exact wordsB_24 h.1
  ·obtain ⟨i, hi, hx⟩ := List.mem_flatMap.1 hx
   have hl : i < hs.length := List.mem_range.1 (List.mem_filter.1 hi).1
   exact leaves_24 n _ _ (okS_go h hl) x hx
theorem addL_all {p : List Int → Prop} {out : List (List Int)} {x : List Int} (h : ∀ y ∈ out, p y) (hx : p x) : ∀ y ∈ addL out x, p y := by
 unfold addL
 split
 ·exact h
 ·intro y hy
  rcases List.mem_append.1 hy with hy | hy
  ·exact h y hy
  ·rw [List.mem_singleton.1 hy]; exact hx
theorem addAll_all {p : List Int → Prop} (ls : List (List Int)) : ∀ {out : List (List Int)}, (∀ y ∈ out, p y) → (∀ y ∈ ls, p y) → ∀ y ∈ addAll out ls, p y := by
 induction ls with
 | nil => exact fun h _ => h
 | cons x ls ih => exact fun h hl => ih (addL_all h (hl x (List.mem_cons_self ..))) (fun y hy => hl y (List.mem_cons_of_mem _ hy))
theorem endF_zero (out : List (List Int)) (m : List Int) (hs : List Hh) (n : Nat) : endF out m hs n 0 false = addAll out (leaves (n + 1) m hs) := by
 unfold endF
 rw [leaves]
 have e : runFrom hs 0 = runIx hs := by unfold runFrom runIx; rw [List.drop_zero]
 rw [e]
 by_cases c : runIx hs = []
 ·rw [if_neg (by simp [c]), if_pos c]; rfl
 ·rw [if_pos (.inr c), if_neg c]
theorem endF_full {out : List (List Int)} (h : 40 ≤ out.length) (m : List Int) (hs : List Hh) (n i : Nat) (mv : Bool) : endF out m hs n i mv = out := by
 unfold endF
 split
 ·exact addAll_full h _
 ·exact addL_full h _
theorem endF_skip {out : List (List Int)} {m : List Int} {hs : List Hh} {n i : Nat} {mv : Bool} (hi : i < hs.length) (h : ¬ (rd_T29 hs (i : Int)).f2 = 0) : endF out m hs n (i + 1) mv = endF out m hs n i mv := by
 unfold endF; rw [runFrom_step hs i hi, if_neg h]
theorem endF_go {out : List (List Int)} {m : List Int} {hs : List Hh} {n i : Nat} {mv : Bool} (hi : i < hs.length) (h : (rd_T29 hs (i : Int)).f2 = 0) : endF (addAll out (leaves n (goM m hs i) (goH m hs i))) m hs n (i + 1) true = endF out m hs n i mv := by
 unfold endF
 rw [runFrom_step hs i hi, if_pos h, if_pos (.inl rfl), if_pos (.inr (by simp)), List.flatMap_cons, addAll_app]
theorem endF_end {out : List (List Int)} {m : List Int} {hs : List Hh} {n i : Nat} (mv : Bool) (hi : hs.length ≤ i) : endF out m hs n i mv = if mv = true then out else addL out m := by
 unfold endF
 rw [runFrom_end hs i hi]
 cases mv with
 | true => rw [if_pos (.inl rfl), if_pos rfl]; rfl
 | false => rw [if_neg (by simp), if_neg (by simp)]
theorem findR_has {p : List Int → Option Bool} {m : List Int} : ∀ (l : List (List Int)) (i : Nat), (∀ a ∈ l, p a = some (decide (a = m))) → ∃ j : Int, findR p l i = some j ∧ (j ≥ 0 ↔ m ∈ l)
 | [], i, _ => ⟨-1, rfl, by simp⟩
 | c :: r, i, h => by
  rw [findR, h c (List.mem_cons_self ..), Option.bind_some]
  by_cases e : c = m
  ·rw [if_pos (decide_eq_true e)]; exact ⟨i, rfl, by simp [e]⟩
  ·rw [if_neg (by simpa using e)]
   obtain ⟨j, h1, h2⟩ := findR_has r (i + 1) (fun a ha => h a (List.mem_cons_of_mem _ ha))
   exact ⟨j, h1, h2.trans (by simp [Ne.symm e])⟩
theorem l29Same_eq (a b : List Int) (ha : a.length ≤ 2097152) (hb : b.length ≤ 2097152) (k : Nat) (hk : 5000000 < k) : spec_l29Same.f k a b = some (decide (a = b)) := by
 have go : ∀ (d i k : Nat), i + d = a.length → i ≤ b.length → (∀ j, j < i → rd a (j : Int) = rd b (j : Int)) → 2 * d + 2 < k → spec_l29Same.l0 k a b (i : Int) = some (decide (a = b)) := by
  intro d
  induction d with
  | zero =>
   intro i k hi hib hj hk
   obtain ⟨k, rfl⟩ : ∃ q, k = q + 2 := ⟨k - 2, by omega⟩
   rw [spec_l29Same.l0, if_neg (by omega), spec_l29Same.j1, if_neg (by simp)]
   refine congrArg some ?_
   rw [Bool.eq_iff_iff, beq_iff_eq, decide_eq_true_iff]
   constructor
   ·intro h
    exact (eq_iff_all a b (by omega)).2 (fun j hj' => hj j (by omega))
   ·rintro rfl; rfl
  | succ d ih =>
   intro i k hi hib hj hk
   obtain ⟨k, rfl⟩ : ∃ q, k = q + 2 := ⟨k - 2, by omega⟩
   rw [spec_l29Same.l0, if_pos (by omega)]
   by_cases c : i < b.length
   ·rw [decide_eq_true (by omega : (i : Int) < (b.length : Int)), spec_l29Same.j1, if_pos rfl, if_pos (by omega), if_pos (by omega), if_pos (by omega)]
    by_cases e : rd a (i : Int) = rd b (i : Int)
    ·rw [if_pos e, wrap_succ (by omega)]
     exact ih (i + 1) k (by omega) (by omega) (fun j hj' => by
      rcases Nat.lt_or_ge j i with q | q
      ·exact hj j q
      ·rw [show j = i by omega]; exact e) (by omega)
    ·rw [if_neg e]
     refine congrArg some (Eq.symm (decide_eq_false ?_))
     rintro rfl; exact e rfl
   ·rw [decide_eq_false (by omega), spec_l29Same.j1, if_neg (by simp)]
    refine congrArg some ?_
    rw [Bool.eq_iff_iff, beq_iff_eq, decide_eq_true_iff]
    constructor
    ·intro h; omega
    ·rintro rfl; rfl
 exact go a.length 0 k (by omega) (Nat.zero_le _) (fun j hj => absurd hj (Nat.not_lt_zero _)) (by omega)
theorem slEqual_eq (a b : List Int) (ha : a.length ≤ 2097152) (k : Nat) (hk : 2200000 < k) : slices_Equal_int_int.f k a b = some (decide (a = b)) := by
 unfold slices_Equal_int_int.f
 by_cases hl : (a.length : Int) = (b.length : Int)
 ·rw [if_pos hl]
  refine for_all (L := fun k i => slices_Equal_int_int.l0 k a b (a.length : Int) (i : Int)) (n := a.length) (fun j => rd a (j : Int) = rd b (j : Int)) ?_ ?_ true ?_ ?_ k (by omega)
  ·intro k i hi hp
   simp only [slices_Equal_int_int.l0]
   rw [if_pos (by omega), if_pos (by omega), if_pos (by omega), if_pos (by omega), if_pos hp, wrap_succ (by omega)]
  ·intro k i hi hp
   simp only [slices_Equal_int_int.l0]
   rw [if_pos (by omega), if_pos (by omega), if_pos (by omega), if_pos (by omega), if_neg hp]
  ·intro k
   simp only [slices_Equal_int_int.l0]
   rw [if_neg (by omega)]
  ·rw [decide_eq_true_iff, eq_iff_all a b (by omega)]
   exact ⟨fun h => ⟨h, rfl⟩, fun h => h.1⟩
 ·rw [if_neg hl, decide_eq_false (by rintro rfl; exact hl rfl)]
theorem flatV_go (m : List Int) (h : Hh) (hm : wordsB m 24 = true) (hh : hB h = true) (hr : h.f2 = 0) : flatV m h = stepV m h := by
 unfold flatV goB
 rw [if_pos ⟨hm, by rw [hh, hr]; rfl⟩]
theorem l29_end (out : List (List Int)) (m : List Int) (k : Nat) (hk : 5000000 < k) (hm : m.length = 24) (ho : ∀ x ∈ out, x.length = 24) :
  (if false = true ∨ 40 ≤ out.length then some out else (findR (fun a => spec_l29Same.f k a m) out 0).bind fun j => if j ≥ 0 then some out else some (out ++ [m])) = some (addL out m) := by
 obtain ⟨j, hj, hi⟩ := findR_has (p := fun a => spec_l29Same.f k a m) (m := m) out 0 (fun a ha => l29Same_eq a m (by have := ho a ha; omega) (by omega) k hk)
 unfold addL
 by_cases c : 40 ≤ out.length
 ·rw [if_pos (.inr c), if_pos (.inl c)]
 ·rw [if_neg (by simp; omega), hj, Option.bind_some]
  by_cases e : m ∈ out
  ·rw [if_pos (hi.2 e), if_pos (.inr e)]
  ·rw [if_neg (fun h => e (hi.1 h)), if_neg (not_or.2 ⟨c, e⟩)]
theorem okS_short {m : List Int} {hs : List Hh} (h : okS m hs) (i : Nat) (hi : i < hs.length) : hB (rd_T29 hs (i : Int)) = true ∧ (rd_T29 hs (i : Int)).f0.length = 4 := by
 have := h.2.2 _ (rdH_mem hs (i : Int) (by omega) (by omega))
 exact ⟨this, hartB_len this⟩
theorem spec29_eq : ∀ (n : Nat), n ≤ 12 → ∀ (m : List Int) (hs : List Hh) (out : List (List Int)) (k : Nat), okS m hs → out.length ≤ 40 → (∀ x ∈ out, x.length = 24) → 6000000 + 6 * n + 6 ≤ k → spec_l29Go.f k out m hs (n : Int) = some (addAll out (leaves n m hs)) := by
 intro n
 induction n with
 | zero =>
  intro _ m hs out k ok ho h24 hk
  obtain ⟨k, rfl⟩ : ∃ q, k = q + 2 := ⟨k - 2, by omega⟩
  have lm := wordsB_24 ok.1
  have lh := ok.2.1
  rw [spec_l29Go.f, if_pos ⟨by omega, by omega, by omega⟩, spec_l29Go.l0, if_pos (by omega), if_neg (fun h => by have := h.2; omega), l29_end out m k (by omega) lm h24]
  rfl
 | succ n ih =>
  intro hn m hs out k ok ho h24 hk
  obtain ⟨k, rfl⟩ : ∃ q, k = q + 1 := ⟨k - 1, by omega⟩
  have lm := wordsB_24 ok.1
  have lh := ok.2.1
  have go : ∀ (d i : Nat) (out : List (List Int)) (mv : Bool) (k : Nat), i + d = hs.length → out.length ≤ 40 → (∀ x ∈ out, x.length = 24) → 6000000 + 6 * n + 6 + d + 1 ≤ k → spec_l29Go.l0 k out m hs ((n + 1 : Nat) : Int) mv i = some (endF out m hs n i mv) := by
   intro d
   induction d with
   | zero =>
    intro i out mv k hi ho h24 hk
    obtain ⟨k, rfl⟩ : ∃ q, k = q + 1 := ⟨k - 1, by omega⟩
    rw [spec_l29Go.l0, if_pos (by omega), if_neg (fun h => by have := h.1; omega), endF_end mv (by omega)]
    cases mv with
    | true => rw [if_pos (.inl rfl), if_pos rfl]
    | false => rw [l29_end out m k (by omega) lm h24, if_neg (by simp)]
   | succ d ihd =>
    intro i out mv k hi ho h24 hk
    obtain ⟨k, rfl⟩ : ∃ q, k = q + 1 := ⟨k - 1, by omega⟩
    have hil : i < hs.length := by omega
    obtain ⟨hb, l4⟩ := okS_short ok i hil
    rw [spec_l29Go.l0, if_pos (by omega), if_pos ⟨hil, by omega⟩]
    by_cases c : (rd_T29 hs (i : Int)).f2 = 0 ∧ out.length < 40
    ·rw [if_pos c, specFlatStep_eq m _ (by omega) (by omega) k (by omega), Option.bind_some, flatV_go m _ ok.1 hb c.1]
     dsimp only
     have e := ih (by omega) (goM m hs i) (goH m hs i) out k (okS_go ok hil) ho h24 (by omega)
     have e2 : wrap64 (((n + 1 : Nat) : Int) - 1) = (n : Int) := by rw [wrap_small (by omega) (by omega)]; omega
     rw [e2]
     have e3 : spec_l29Go.f k out (stepV m (rd_T29 hs (i : Int))).1 (hs.set i (stepV m (rd_T29 hs (i : Int))).2) (n : Int) = some (addAll out (leaves n (goM m hs i) (goH m hs i))) := e
     rw [e3, Option.bind_some, ihd (i + 1) _ true k (by omega) ((addAll_len _ _).2 ho) (addAll_all _ h24 (leaves_24 n _ _ (okS_go ok hil))) (by omega)]
     exact congrArg some (endF_go hil c.1)
    ·rw [if_neg c, ihd (i + 1) out mv k (by omega) ho h24 (by omega)]
     by_cases c0 : (rd_T29 hs (i : Int)).f2 = 0
     ·have h40 : 40 ≤ out.length := by omega
      rw [endF_full h40, endF_full h40]
     ·rw [endF_skip hil c0]
  rw [spec_l29Go.f, if_pos ⟨by omega, by omega, by omega⟩, go hs.length 0 out false k (by omega) ho h24 (by omega), endF_zero]
def endsV (m : List Int) (hs : List Hh) (n : Int) : List (List Int) := if wordsB m 24 = true ∧ hs.length ≤ 3 ∧ (0 ≤ n ∧ n ≤ 12) ∧ hs.all hB = true then addAll [] (leaves n.toNat m hs) else []
theorem specEnds2_l0 (hs : List Hh) (hl : hs.length ≤ 2097152) (hx : ∀ h ∈ hs, h.f0.length ≤ 1048576) : ∀ (d i k : Nat), i + d = hs.length → 1048600 + d < k → spec_Ends2.l0 k hs i = some ((hs.drop i).all hB) := by
 intro d
 induction d with
 | zero =>
  intro i k hi hk
  obtain ⟨k, rfl⟩ : ∃ q, k = q + 1 := ⟨k - 1, by omega⟩
  rw [spec_Ends2.l0, if_neg (by omega), List.drop_of_length_le (by omega)]; rfl
 | succ d ih =>
  intro i k hi hk
  obtain ⟨k, rfl⟩ : ∃ q, k = q + 1 := ⟨k - 1, by omega⟩
  have hil : i < hs.length := by omega
  have h1 := hx _ (List.getElem_mem hil)
  rw [spec_Ends2.l0, if_pos hil, rdH hs i hil, specHartOk_eq _ _ _ (by omega) k (by omega), Option.bind_some, List.drop_eq_getElem_cons hil, List.all_cons]
  by_cases c : hartB hs[i].f0 hs[i].f1 hs[i].f2 = true
  ·rw [if_pos c, ih (i + 1) k (by omega) (by omega), show hB hs[i] = true from c, Bool.true_and]
  ·rw [if_neg c, show hB hs[i] = false from Bool.eq_false_iff.mpr (fun h => c h), Bool.false_and]
theorem specEnds2_eq (m : List Int) (hs : List Hh) (n : Int) (hm : m.length ≤ 1048576) (hl : hs.length ≤ 1048576) (hx : ∀ h ∈ hs, h.f0.length ≤ 1048576) (k : Nat) (hk : 7000000 < k) : spec_Ends2.f k m hs n = some (endsV m hs n) := by
 unfold spec_Ends2.f endsV
 rw [if_pos (by omega), specEnds2_l0 hs (by omega) hx hs.length 0 k (by omega) (by omega), List.drop_zero, Option.bind_some]
 by_cases ca : hs.all hB = true
 ·rw [if_pos ca, l1Words_eq m 24 (by omega) k (by omega), Option.bind_some]
  by_cases cm : wordsB m 24 = true
  ·rw [if_pos cm]
   by_cases c3 : (hs.length : Int) > 3
   ·rw [if_pos c3, if_neg (fun h => by have := h.2.1; omega)]
   ·rw [if_neg c3, l1In_eq, Option.bind_some]
    by_cases cn : 0 ≤ n ∧ n ≤ 12
    ·rw [if_pos (decide_eq_true cn), if_pos ⟨cm, by omega, cn, ca⟩]
     have e := spec29_eq n.toNat (by omega) m hs [] k ⟨cm, by omega, fun h hh => List.all_eq_true.1 ca h hh⟩ (by simp) (by simp) (by omega)
     rwa [Int.toNat_of_nonneg cn.1] at e
    ·rw [if_neg (by simpa using cn), if_neg (fun h => cn h.2.2.1)]
  ·rw [if_neg cm, if_neg (fun h => cm h.1)]
 ·rw [if_neg ca, if_neg (fun h => ca h.2.2.2)]
theorem twoB_inj : ∀ (a b : List Int), (∀ x ∈ a, 0 ≤ x ∧ x ≤ 65535) → (∀ x ∈ b, 0 ≤ x ∧ x ≤ 65535) → twoB a = twoB b → a = b
 | [], [], _, _, _ => rfl
 | [], y :: b, _, _, h => by simp [twoB] at h
 | x :: a, [], _, _, h => by simp [twoB] at h
 | x :: a, y :: b, ha, hb, h => by
  have h' : x / 256 % 256 :: x % 256 :: twoB a = y / 256 % 256 :: y % 256 :: twoB b := h
  injection h' with h1 h'
  injection h' with h2 h3
  have hx := ha x (List.mem_cons_self ..)
  have hy := hb y (List.mem_cons_self ..)
  rw [twoB_inj a b (fun z hz => ha z (List.mem_cons_of_mem _ hz)) (fun z hz => hb z (List.mem_cons_of_mem _ hz)) h3, show x = y by omega]
theorem hBy_inj {h h' : Hh} (c : hOk h = true) (c' : hOk h' = true) (e : hBy h = hBy h') : h = h' := by
 obtain ⟨p1, p2, p3, p4⟩ := hartB_parts c
 obtain ⟨q1, q2, q3, q4⟩ := hartB_parts c'
 unfold hBy at e
 obtain ⟨e1, e2⟩ := List.append_inj e (by rw [twoB_length, twoB_length, p1, q1])
 have e3 := twoB_inj _ _ p2 q2 e1
 injection e2 with e4 e5
 injection e5 with e5 _
 obtain ⟨a, b, s⟩ := h
 obtain ⟨a', b', s'⟩ := h'
 dsimp only at *
 obtain rfl : b = b' := by omega
 obtain rfl : s = s' := by omega
 rw [e3]
theorem hsBy_inj : ∀ (a b : List Hh), (∀ h ∈ a, hOk h = true) → (∀ h ∈ b, hOk h = true) → a.flatMap hBy = b.flatMap hBy → a = b
 | [], [], _, _, _ => rfl
 | [], y :: b, _, hb, h => by
  have := congrArg List.length h
  rw [List.flatMap_cons, List.length_append, hBy_length y (hb y (List.mem_cons_self ..))] at this
  simp at this <;> omega
 | x :: a, [], ha, _, h => by
  have := congrArg List.length h
  rw [List.flatMap_cons, List.length_append, hBy_length x (ha x (List.mem_cons_self ..))] at this
  simp at this <;> omega
 | x :: a, y :: b, ha, hb, h => by
  rw [List.flatMap_cons, List.flatMap_cons] at h
  have hx := ha x (List.mem_cons_self ..)
  have hy := hb y (List.mem_cons_self ..)
  obtain ⟨e1, e2⟩ := List.append_inj h (by rw [hBy_length x hx, hBy_length y hy])
  rw [hBy_inj hx hy e1, hsBy_inj a b (fun z hz => ha z (List.mem_cons_of_mem _ hz)) (fun z hz => hb z (List.mem_cons_of_mem _ hz)) e2]
theorem saveB_of {m : List Int} {hs : List Hh} (h : okS m hs) : saveB m hs = ((hs.length : Int) % 256) :: (twoB m ++ hs.flatMap hBy) := by
 unfold saveB
 have lh := h.2.1
 rw [if_pos ⟨h.1, by omega, List.all_eq_true.2 h.2.2⟩]
theorem hsBy_len : ∀ (hs : List Hh), (∀ h ∈ hs, hOk h = true) → (hs.flatMap hBy).length = 10 * hs.length
 | [], _ => rfl
 | x :: a, h => by
  rw [List.flatMap_cons, List.length_append, hBy_length x (h x (List.mem_cons_self ..)), hsBy_len a (fun z hz => h z (List.mem_cons_of_mem _ hz)), List.length_cons]; omega
theorem saveB_short {m : List Int} {hs : List Hh} (h : okS m hs) : (saveB m hs).length ≤ 100 := by
 have lh := h.2.1
 rw [saveB_of h, List.length_cons, List.length_append, twoB_length, wordsB_24 h.1, hsBy_len hs h.2.2]; omega
theorem saveB_by {m : List Int} {hs : List Hh} (h : okS m hs) : ∀ x ∈ saveB m hs, 0 ≤ x ∧ x < 256 := by
 intro x hx
 rw [saveB_of h] at hx
 have two : ∀ l : List Int, x ∈ twoB l → 0 ≤ x ∧ x < 256 := by
  intro l hl
  obtain ⟨y, _, hy⟩ := List.mem_flatMap.1 hl
  simp only [List.mem_cons, List.not_mem_nil, or_false] at hy
  omega
 rcases List.mem_cons.1 hx with rfl | hx
 ·omega
 rcases List.mem_append.1 hx with hx | hx
 ·exact two m hx
 ·obtain ⟨y, _, hy⟩ := List.mem_flatMap.1 hx
  unfold hBy at hy
  rcases List.mem_append.1 hy with hy | hy
  ·exact two _ hy
  ·simp only [List.mem_cons, List.not_mem_nil, or_false] at hy
   omega
theorem saveB_inj {m m' : List Int} {hs hs' : List Hh} (h : okS m hs) (h' : okS m' hs') (e : saveB m hs = saveB m' hs') : m = m' ∧ hs = hs' := by
 rw [saveB_of h, saveB_of h'] at e
 injection e with _ e
 obtain ⟨e1, e2⟩ := List.append_inj e (by rw [twoB_length, twoB_length, wordsB_24 h.1, wordsB_24 h'.1])
 exact ⟨twoB_inj _ _ (fun x hx => wordsB_mem h.1 x hx) (fun x hx => wordsB_mem h'.1 x hx) e1, hsBy_inj _ _ h.2.2 h'.2.2 e2⟩
theorem byte_inj : ∀ (a b : List Int), (∀ x ∈ a, 0 ≤ x ∧ x < 256) → (∀ x ∈ b, 0 ≤ x ∧ x < 256) → a.map (fun n => UInt8.ofNat n.toNat) = b.map (fun n => UInt8.ofNat n.toNat) → a = b
 | [], [], _, _, _ => rfl
 | [], _ :: _, _, _, h => by cases h
 | _ :: _, [], _, _, h => by cases h
 | x :: a, y :: b, ha, hb, h => by
  rw [List.map_cons, List.map_cons] at h
  injection h with h1 h2
  have hx := ha x (List.mem_cons_self ..)
  have hy := hb y (List.mem_cons_self ..)
  have h3 := congrArg UInt8.toNat h1
  rw [UInt8.toNat_ofNat', UInt8.toNat_ofNat'] at h3
  rw [byte_inj a b (fun z hz => ha z (List.mem_cons_of_mem _ hz)) (fun z hz => hb z (List.mem_cons_of_mem _ hz)) h2, show x = y by omega]
theorem enc_small (n : Nat) (h : n ≤ 12) : (Go.Utf8.encode (wrap32 (n : Int))).data.toList = [UInt8.ofNat n] := by
 have e : wrap32 (n : Int) = (n : Int) := by unfold wrap32; omega
 rw [e]
 have hc : n = 0 ∨ n = 1 ∨ n = 2 ∨ n = 3 ∨ n = 4 ∨ n = 5 ∨ n = 6 ∨ n = 7 ∨ n = 8 ∨ n = 9 ∨ n = 10 ∨ n = 11 ∨ n = 12 := by omega
 rcases hc with rfl | rfl | rfl | rfl | rfl | rfl | rfl | rfl | rfl | rfl | rfl | rfl | rfl <;> simp [Go.Utf8.encode, Go.Utf8.valid]
def keyK (m : List Int) (hs : List Hh) (n : Nat) : List UInt8 := (keyN (saveB m hs) (n : Int)).data.toList
theorem keyK_of (m : List Int) (hs : List Hh) (n : Nat) (hn : n ≤ 12) : keyK m hs n = (saveB m hs).map (fun n => UInt8.ofNat n.toNat) ++ [UInt8.ofNat n] := by
 unfold keyK keyN
 rw [ByteArray.data_append, Array.toList_append, enc_small n hn]
 rfl
theorem keyN_size {m : List Int} {hs : List Hh} (h : okS m hs) (n : Nat) (hn : n ≤ 12) : (keyN (saveB m hs) (n : Int)).size ≤ 1000 := by
 have e := congrArg List.length (keyK_of m hs n hn)
 have l := saveB_short h
 unfold keyK at e
 rw [List.length_append, List.length_map, List.length_singleton, Array.length_toList] at e
 show (keyN (saveB m hs) (n : Int)).data.size ≤ 1000
 omega
theorem keyK_inj {m m' : List Int} {hs hs' : List Hh} {n n' : Nat} (h : okS m hs) (h' : okS m' hs') (hn : n ≤ 12) (hn' : n' ≤ 12) (e : keyK m hs n = keyK m' hs' n') : m = m' ∧ hs = hs' ∧ n = n' := by
 rw [keyK_of m hs n hn, keyK_of m' hs' n' hn'] at e
 obtain ⟨e1, e2⟩ := List.append_inj' e rfl
 obtain ⟨f1, f2⟩ := saveB_inj h h' (byte_inj _ _ (saveB_by h) (saveB_by h') e1)
 injection e2 with e2 _
 have e3 := congrArg UInt8.toNat e2
 rw [UInt8.toNat_ofNat', UInt8.toNat_ofNat'] at e3
 exact ⟨f1, f2, by omega⟩
def DoneF (been : List (List UInt8)) (ends : List (List Int)) (n : Nat) : Prop := ∀ (m : List Int) (hs : List Hh) (n' : Nat), okS m hs → n' ≤ n → keyK m hs n' ∈ been → absL ends (leaves n' m hs)
def KeysF (been been' : List (List UInt8)) (n : Nat) : Prop := (∀ x ∈ been, x ∈ been') ∧ ∀ x ∈ been', x ∈ been ∨ ∃ (m : List Int) (hs : List Hh) (n' : Nat), okS m hs ∧ n' ≤ n ∧ x = keyK m hs n'
theorem KeysF.refl (been : List (List UInt8)) (n : Nat) : KeysF been been n := ⟨fun _ h => h, fun _ h => .inl h⟩
theorem KeysF.trans {a b c : List (List UInt8)} {n : Nat} (h : KeysF a b n) (k : KeysF b c n) : KeysF a c n := ⟨fun x hx => k.1 x (h.1 x hx), fun x hx => (k.2 x hx).elim (h.2 x) .inr⟩
theorem DoneF.mono {been : List (List UInt8)} {ends : List (List Int)} {n : Nat} (h : DoneF been ends n) (ls : List (List Int)) : DoneF been (addAll ends ls) n := fun m hs n' a b c => absL_mono ls (h m hs n' a b c)
theorem pow_step (n : Nat) : 3 * 4 ^ n + 1 ≤ 4 ^ (n + 1) := by
 have : 0 < 4 ^ n := Nat.pow_pos (by decide)
 rw [Nat.pow_succ]; omega
theorem find_end (been : List (List UInt8)) (ends : List (List Int)) (m : List Int) (k : Nat) (hk : 5000000 < k) (hm : m.length = 24) (h40 : ends.length ≤ 40) (ho : ∀ x ∈ ends, x.length = 24) :
  (if ends.length < 40 then (findR (fun a => slices_Equal_int_int.f k a m) ends 0).bind fun j => if j ≥ 0 then some (been, ends) else some (been, ends ++ [m]) else some (been, ends)) = some (been, addL ends m) := by
 obtain ⟨j, hj, hi⟩ := findR_has (p := fun a => slices_Equal_int_int.f k a m) (m := m) ends 0 (fun a ha => slEqual_eq a m (by have := ho a ha; omega) k (by omega))
 unfold addL
 by_cases c : ends.length < 40
 ·rw [if_pos c, hj, Option.bind_some]
  by_cases e : m ∈ ends
  ·rw [if_pos (hi.2 e), if_pos (.inr e)]
  ·rw [if_neg (fun h => e (hi.1 h)), if_neg (not_or.2 ⟨by omega, e⟩)]
 ·rw [if_neg c, if_pos (.inl (by omega))]
theorem implFind_eq : ∀ (n : Nat), n ≤ 12 → ∀ (m : List Int) (hs : List Hh) (been : List (List UInt8)) (ends : List (List Int)) (k : Nat), okS m hs → ends.length ≤ 40 → (∀ x ∈ ends, x.length = 24) → been.length + 4 ^ n ≤ 500000000 → DoneF been ends n → 6000000 + 6 * n + 6 ≤ k →
  ∃ been', impl_find.f k been ends m hs (n : Int) = some (been', addAll ends (leaves n m hs)) ∧ been'.length ≤ been.length + 4 ^ n ∧ KeysF been been' n ∧ DoneF been' (addAll ends (leaves n m hs)) n := by
 intro n
 induction n with
 | zero =>
  intro _ m hs been ends k ok ho h24 hb hd hk
  obtain ⟨k, rfl⟩ : ∃ q, k = q + 1 := ⟨k - 1, by omega⟩
  have lm := wordsB_24 ok.1
  have lh := ok.2.1
  have sk : ∀ (d i k : Nat) (been : List (List UInt8)), i + d = hs.length → 5000002 + d < k → impl_find.l0 k been ends m hs ((0 : Nat) : Int) false i = some (been, addL ends m) := by
   intro d
   induction d with
   | zero =>
    intro i k been hi hk
    obtain ⟨k, rfl⟩ : ∃ q, k = q + 1 := ⟨k - 1, by omega⟩
    rw [impl_find.l0, if_neg (by omega), if_neg (by simp)]
    exact find_end been ends m k (by omega) lm ho h24
   | succ d ihd =>
    intro i k been hi hk
    obtain ⟨k, rfl⟩ : ∃ q, k = q + 1 := ⟨k - 1, by omega⟩
    rw [impl_find.l0, if_pos (by omega), if_pos (by omega)]
    exact ihd (i + 1) k been (by omega) (by omega)
  rw [impl_find.f]
  by_cases c40 : ends.length = 40
  ·rw [if_pos c40, addAll_full (by omega)]
   exact ⟨been, rfl, by omega, KeysF.refl _ _, hd⟩
  ·rw [if_neg c40, if_pos ⟨by omega, by omega, by omega, ho⟩, implSaveBytes_eq m hs (by omega) (fun h hh => by have := hartB_len (ok.2.2 h hh); omega) (by omega) k (by omega), Option.bind_some, if_pos (keyN_size ok 0 (by omega)), show (keyN (saveB m hs) ((0 : Nat) : Int)).data.toList = keyK m hs 0 from rfl]
   by_cases hin : keyK m hs 0 ∈ been
   ·rw [if_pos hin, addAll_of _ (hd m hs 0 ok (Nat.le_refl _) hin)]
    exact ⟨been, rfl, by omega, KeysF.refl _ _, hd⟩
   ·rw [if_neg hin, sk hs.length 0 k _ (by omega) (by omega)]
    refine ⟨_, rfl, by rw [List.length_cons]; omega, ⟨fun x hx => List.mem_cons_of_mem _ hx, fun x hx => ?_⟩, ?_⟩
    ·rcases List.mem_cons.1 hx with rfl | hx
     ·exact .inr ⟨m, hs, 0, ok, Nat.le_refl _, rfl⟩
     ·exact .inl hx
    ·intro m' hs' n' ok' hn' hin'
     rcases List.mem_cons.1 hin' with e | hin'
     ·obtain ⟨rfl, rfl, rfl⟩ := keyK_inj ok' ok (by omega) (by omega) e
      exact absL_all _ _
     ·exact hd.mono _ m' hs' n' ok' hn' hin'
 | succ n ih =>
  intro hn m hs been ends k ok ho h24 hb hd hk
  obtain ⟨k, rfl⟩ : ∃ q, k = q + 1 := ⟨k - 1, by omega⟩
  have lm := wordsB_24 ok.1
  have lh := ok.2.1
  have hp := pow_step n
  have go : ∀ (d i : Nat) (been : List (List UInt8)) (ends : List (List Int)) (mv : Bool) (k : Nat), i + d = hs.length → ends.length ≤ 40 → (∀ x ∈ ends, x.length = 24) → been.length + d * 4 ^ n ≤ 500000000 → DoneF been ends n → 6000000 + 6 * n + 6 + d + 1 ≤ k →
    ∃ been', impl_find.l0 k been ends m hs ((n + 1 : Nat) : Int) mv i = some (been', endF ends m hs n i mv) ∧ been'.length ≤ been.length + d * 4 ^ n ∧ KeysF been been' n ∧ DoneF been' (endF ends m hs n i mv) n := by
   intro d
   induction d with
   | zero =>
    intro i been ends mv k hi ho h24 hb hd hk
    obtain ⟨k, rfl⟩ : ∃ q, k = q + 1 := ⟨k - 1, by omega⟩
    rw [impl_find.l0, if_neg (by omega), endF_end mv (by omega)]
    cases mv with
    | true => rw [if_pos rfl, if_pos rfl]; exact ⟨been, rfl, by omega, KeysF.refl _ _, hd⟩
    | false =>
     rw [if_neg (by simp), find_end been ends m k (by omega) lm ho h24, if_neg (by simp)]
     exact ⟨been, rfl, by omega, KeysF.refl _ _, hd.mono [m]⟩
   | succ d ihd =>
    intro i been ends mv k hi ho h24 hb hd hk
    obtain ⟨k, rfl⟩ : ∃ q, k = q + 1 := ⟨k - 1, by omega⟩
    have hil : i < hs.length := by omega
    have hmem : rd_T29 hs (i : Int) ∈ hs := rdH_mem hs _ (by omega) (by omega)
    rw [Nat.succ_mul] at hb
    rw [impl_find.l0, if_pos hil, if_neg (by omega)]
    by_cases c : (rd_T29 hs (i : Int)).f2 = 0
    ·rw [if_pos c, implStep_eq m _ lm (ok.2.2 _ hmem) k (by omega), Option.bind_some]
     dsimp only
     obtain ⟨b1, e1, l1, k1, d1⟩ := ih (by omega) (goM m hs i) (goH m hs i) been ends k (okS_go ok hil) ho h24 (by omega) hd (by omega)
     have e2 : wrap64 (((n + 1 : Nat) : Int) - 1) = (n : Int) := by rw [wrap_small (by omega) (by omega)]; omega
     have e3 : impl_find.f k been ends (stepV m (rd_T29 hs (i : Int))).1 (hs.set i (stepV m (rd_T29 hs (i : Int))).2) (n : Int) = some (b1, addAll ends (leaves n (goM m hs i) (goH m hs i))) := e1
     rw [e2, e3, Option.bind_some]
     dsimp only
     obtain ⟨b2, e4, l2, k2, d2⟩ := ihd (i + 1) b1 _ true k (by omega) ((addAll_len _ _).2 ho) (addAll_all _ h24 (leaves_24 n _ _ (okS_go ok hil))) (by omega) d1 (by omega)
     rw [endF_go hil c (mv := mv)] at e4 d2
     exact ⟨b2, e4, by rw [Nat.succ_mul]; omega, k1.trans k2, d2⟩
    ·rw [if_neg c]
     obtain ⟨b2, e4, l2, k2, d2⟩ := ihd (i + 1) been ends mv k (by omega) ho h24 (by omega) hd (by omega)
     rw [endF_skip hil c] at e4 d2
     exact ⟨b2, e4, by rw [Nat.succ_mul]; omega, k2, d2⟩
  rw [impl_find.f]
  by_cases c40 : ends.length = 40
  ·rw [if_pos c40, addAll_full (by omega)]
   exact ⟨been, rfl, by omega, KeysF.refl _ _, hd⟩
  ·rw [if_neg c40, if_pos ⟨by omega, by omega, by omega, ho⟩, implSaveBytes_eq m hs (by omega) (fun h hh => by have := hartB_len (ok.2.2 h hh); omega) (by omega) k (by omega), Option.bind_some, if_pos (keyN_size ok (n + 1) hn), show (keyN (saveB m hs) ((n + 1 : Nat) : Int)).data.toList = keyK m hs (n + 1) from rfl]
   by_cases hin : keyK m hs (n + 1) ∈ been
   ·rw [if_pos hin, addAll_of _ (hd m hs (n + 1) ok (Nat.le_refl _) hin)]
    exact ⟨been, rfl, by omega, KeysF.refl _ _, hd⟩
   ·rw [if_neg hin]
    have d0 : DoneF (keyK m hs (n + 1) :: been) ends n := by
     intro m' hs' n' ok' hn' hin'
     rcases List.mem_cons.1 hin' with e | hin'
     ·obtain ⟨_, _, e3⟩ := keyK_inj ok' ok (by omega) (by omega) e
      omega
     ·exact hd m' hs' n' ok' (by omega) hin'
    have hd3 : hs.length * 4 ^ n ≤ 3 * 4 ^ n := Nat.mul_le_mul_right _ lh
    obtain ⟨b2, e4, l2, k2, d2⟩ := go hs.length 0 (keyK m hs (n + 1) :: been) ends false k (by omega) ho h24 (by rw [List.length_cons]; omega) d0 (by omega)
    rw [endF_zero] at e4 d2
    rw [List.length_cons] at l2
    refine ⟨b2, e4, by omega, ⟨fun x hx => k2.1 x (List.mem_cons_of_mem _ hx), fun x hx => ?_⟩, ?_⟩
    ·rcases k2.2 x hx with hx | ⟨m', hs', n', a, b, c⟩
     ·rcases List.mem_cons.1 hx with rfl | hx
      ·exact .inr ⟨m, hs, n + 1, ok, Nat.le_refl _, rfl⟩
      ·exact .inl hx
     ·exact .inr ⟨m', hs', n', a, by omega, c⟩
    ·intro m' hs' n' ok' hn' hin'
     by_cases c : n' ≤ n
     ·exact d2 m' hs' n' ok' c hin'
     ·obtain rfl : n' = n + 1 := by omega
      rcases k2.2 _ hin' with hx | ⟨m2, hs2, n2, a, b, e⟩
      ·rcases List.mem_cons.1 hx with e | hx
       ·obtain ⟨rfl, rfl, _⟩ := keyK_inj ok' ok (by omega) (by omega) e
        exact absL_all _ _
       ·exact hd.mono _ m' hs' _ ok' (Nat.le_refl _) hx
      ·obtain ⟨_, _, e3⟩ := keyK_inj ok' a (by omega) (by omega) e
       omega
theorem endsCF_eq (hs : List Hh) (hl : hs.length ≤ 1048576) (hx : ∀ h ∈ hs, h.f0.length ≤ 1048576) (k : Nat) (hk : 3000000 < k) : slices_ContainsFunc_at_impl_Ends2_1.f k hs 0 = some (!(hs.all hB)) := by
 unfold slices_ContainsFunc_at_impl_Ends2_1.f slices_IndexFunc_at_impl_Ends2_1.f
 have hf : ∀ (k : Nat) (h : Hh), h.f0.length ≤ 1048576 → 1048580 < k → impl_Ends2_1.f k h.f0 h.f1 h.f2 = some (!hB h) := fun k h h1 h2 => by
  unfold impl_Ends2_1.f; rw [implHartOk_eq _ _ _ (by omega) k (by omega)]; rfl
 obtain ⟨C, hC⟩ : ∃ C : Nat, C = 1500000 := ⟨_, rfl⟩
 have HH := idx_any (n := hs.length) (fun k i => slices_IndexFunc_at_impl_Ends2_1.l0 (k + C) hs (hs.length : Int) (i : Int)) (fun i => !hB (rd_T29 hs (i : Int))) ?_ ?_ ?_ (!(hs.all hB)) ?_ (k - C) (by omega)
 ·obtain ⟨v, e, hv⟩ := HH
  rw [show k - C + C = k by omega, show ((0 : Nat) : Int) = 0 from rfl] at e
  rw [e, Option.bind_some, hv]
 ·intro k i hi q
  rw [show k + 1 + C = (k + C) + 1 by omega]
  simp only [slices_IndexFunc_at_impl_Ends2_1.l0]
  rw [if_pos (by omega), if_pos (by omega), if_pos (by omega), hf _ _ (hx _ (rdH_mem hs (i : Int) (by omega) (by omega))) (by omega), Option.bind_some, q, if_neg (by simp), wrap_succ (by omega)]
 ·intro k i hi q
  rw [show k + 1 + C = (k + C) + 1 by omega]
  simp only [slices_IndexFunc_at_impl_Ends2_1.l0]
  rw [if_pos (by omega), if_pos (by omega), if_pos (by omega), hf _ _ (hx _ (rdH_mem hs (i : Int) (by omega) (by omega))) (by omega), Option.bind_some, q, if_pos rfl]
 ·intro k
  rw [show k + 1 + C = (k + C) + 1 by omega]
  simp only [slices_IndexFunc_at_impl_Ends2_1.l0]
  rw [if_neg (by omega)]
 ·rw [Bool.not_eq_true', ← Bool.not_eq_true, List.all_eq_true]
  constructor
  ·intro h
   obtain ⟨x, hx2⟩ := Classical.not_forall.1 h
   obtain ⟨hx3, hx4⟩ := Classical.not_imp.1 hx2
   obtain ⟨j, hj, rfl⟩ := List.getElem_of_mem hx3
   exact ⟨j, hj, by rw [rdH hs j hj]; simpa using hx4⟩
  ·rintro ⟨j, hj, h2⟩ h
   have h3 := h _ (rdH_mem hs (j : Int) (by omega) (by omega))
   rw [h3] at h2; cases h2
theorem implEnds2_eq (m : List Int) (hs : List Hh) (n : Int) (hm : m.length ≤ 1048576) (hl : hs.length ≤ 1048576) (hx : ∀ h ∈ hs, h.f0.length ≤ 1048576) (k : Nat) (hk : 7000000 < k) : impl_Ends2.f k m hs n = some (endsV m hs n) := by
 unfold impl_Ends2.f endsV
 rw [memOk_eq m (by omega) k (by omega), Option.bind_some]
 by_cases cm : wordsB m 24 = true
 ·rw [if_pos cm]
  by_cases c3 : (hs.length : Int) > 3
  ·rw [if_pos c3, if_neg (fun h => by have := h.2.1; omega)]
  ·rw [if_neg c3, from_eq, Option.bind_some]
   by_cases cn : 0 ≤ n ∧ n ≤ 12
   ·rw [if_pos (decide_eq_true cn), endsCF_eq hs hl hx k (by omega), Option.bind_some]
    by_cases ca : hs.all hB = true
    ·rw [ca, if_neg (by simp), if_pos ⟨cm, by omega, cn, rfl⟩]
     have hp : 4 ^ n.toNat ≤ 4 ^ 12 := Nat.pow_le_pow_right (by decide) (by omega)
     obtain ⟨b, e, _⟩ := implFind_eq n.toNat (by omega) m hs [] [] k ⟨cm, by omega, fun h hh => List.all_eq_true.1 ca h hh⟩ (by simp) (by simp) (by simp only [List.length_nil]; omega) (fun _ _ _ _ _ h => by cases h) (by omega)
     rw [Int.toNat_of_nonneg cn.1] at e
     rw [e]; rfl
    ·rw [if_pos (by simpa using ca), if_neg (fun h => ca h.2.2.2)]
   ·rw [if_neg (by simpa using cn), if_neg (fun h => cn h.2.2.1)]
 ·rw [if_neg cm, if_neg (fun h => cm h.1)]
theorem endsV_ok (m : List Int) (hs : List Hh) (n : Int) : (endsV m hs n).length ≤ 40 ∧ ∀ x ∈ endsV m hs n, x.length = 24 := by
 unfold endsV
 split
 ·rename_i h
  exact ⟨(addAll_len _ _).2 (by simp), addAll_all _ (by simp) (leaves_24 _ _ _ ⟨h.1, h.2.1, fun x hx => List.all_eq_true.1 h.2.2.2 x hx⟩)⟩
 ·exact ⟨by simp, by simp⟩
theorem leaves_w : ∀ (n : Nat) (m : List Int) (hs : List Hh), okS m hs → ∀ x ∈ leaves n m hs, wordsB x 24 = true
 | 0, m, hs, h, x, hx => by rw [leaves, List.mem_singleton] at hx; rw [hx]; exact h.1
 | n + 1, m, hs, h, x, hx => by
  rw [leaves] at hx
  split at hx
  ·rw [List.mem_singleton] at hx; rw [hx]; exact h.1
  ·obtain ⟨i, hi, hx⟩ := List.mem_flatMap.1 hx
   have hl : i < hs.length := List.mem_range.1 (List.mem_filter.1 hi).1
   exact leaves_w n _ _ (okS_go h hl) x hx
theorem endsV_w (m : List Int) (hs : List Hh) (n : Int) : ∀ x ∈ endsV m hs n, wordsB x 24 = true := by
 unfold endsV
 split
 ·rename_i h
  exact addAll_all _ (by simp) (leaves_w _ _ _ ⟨h.1, h.2.1, fun x hx => List.all_eq_true.1 h.2.2.2 x hx⟩)
 ·simp
def valsV (V : List (List Int)) (c : Int) : List Int := V.map fun r => rd r c
def finV (vs : List Int) : List Int := ((List.range 65536).filter fun (w : Nat) => decide ((w : Int) ∈ vs)).map fun (w : Nat) => (w : Int)
theorem finV_nil : finV [] = [] := by unfold finV; rw [List.filter_eq_nil_iff.2 (fun w _ => by simp)]; rfl
theorem finV_mem (vs : List Int) (hv : ∀ x ∈ vs, 0 ≤ x ∧ x ≤ 65535) (x : Int) : x ∈ finV vs ↔ x ∈ vs := by
 unfold finV
 rw [List.mem_map]
 constructor
 ·rintro ⟨w, hw, rfl⟩; exact of_decide_eq_true (List.mem_filter.1 hw).2
 ·intro hx
  have := hv x hx
  exact ⟨x.toNat, List.mem_filter.2 ⟨List.mem_range.2 (by omega), decide_eq_true (by rw [Int.toNat_of_nonneg this.1]; exact hx)⟩, Int.toNat_of_nonneg this.1⟩
theorem finV_lt (vs : List Int) : (finV vs).Pairwise fun x y => x < y := by
 unfold finV
 rw [List.pairwise_map]
 exact (List.Pairwise.filter _ (List.pairwise_lt_range (n := 65536))).imp (fun h => by omega)
theorem compactUpTo_ok (d : Array Int) (hs : ∀ i j, i ≤ j → j < d.size → d[i]! ≤ d[j]!) : ∀ m, m ≤ d.size → (Go.Lib.compactUpTo d m).Pairwise (fun x y => x < y) ∧ (∀ x ∈ Go.Lib.compactUpTo d m, ∃ j, j < m ∧ d[j]! = x) ∧ ∀ j, j < m → d[j]! ∈ Go.Lib.compactUpTo d m
 | 0, _ => by
  have e : Go.Lib.compactUpTo d 0 = [] := rfl
  rw [e]; exact ⟨List.Pairwise.nil, by simp, by simp⟩
 | m + 1, hm => by
  obtain ⟨a, b, c⟩ := compactUpTo_ok d hs m (by omega)
  rw [Go.Lib.compactUpTo_succ]
  by_cases hk : Go.Lib.keeps d m = true
  ·rw [if_pos hk]
   refine ⟨List.pairwise_append.2 ⟨a, List.pairwise_singleton _ _, fun x hx y hy => ?_⟩, fun x hx => ?_, fun j hj => ?_⟩
   ·rw [List.mem_singleton] at hy
    subst hy
    obtain ⟨j, hj, rfl⟩ := b x hx
    have hk2 : m = 0 ∨ d[m]! ≠ d[m - 1]! := of_decide_eq_true hk
    have h1 := hs j (m - 1) (by omega) (by omega)
    have h2 := hs (m - 1) m (by omega) (by omega)
    rcases hk2 with hk2 | hk2
    ·omega
    ·omega
   ·rcases List.mem_append.1 hx with hx | hx
    ·obtain ⟨j, hj, e⟩ := b x hx; exact ⟨j, by omega, e⟩
    ·rw [List.mem_singleton] at hx; exact ⟨m, by omega, hx.symm⟩
   ·rcases Nat.lt_or_ge j m with q | q
    ·exact List.mem_append_left _ (c j q)
    ·rw [show j = m by omega]; exact List.mem_append_right _ (List.mem_singleton.2 rfl)
  ·rw [if_neg hk, List.append_nil]
   have hk2 : ¬ (m = 0 ∨ d[m]! ≠ d[m - 1]!) := fun h => hk (decide_eq_true h)
   refine ⟨a, fun x hx => ?_, fun j hj => ?_⟩
   ·obtain ⟨j, hj, e⟩ := b x hx; exact ⟨j, by omega, e⟩
   ·rcases Nat.lt_or_ge j m with q | q
    ·exact c j q
    ·have h0 : m ≠ 0 := fun h => hk2 (.inl h)
     have he : d[m]! = d[m - 1]! := Classical.not_not.1 (fun h => hk2 (.inr h))
     rw [show j = m by omega, he]; exact c (m - 1) (by omega)
theorem compact_sort (vs : List Int) (hv : ∀ x ∈ vs, 0 ≤ x ∧ x ≤ 65535) : Go.Lib.compact (vs.mergeSort fun x y => decide (x ≤ y)) = finV vs := by
 have hp := List.mergeSort_perm vs (fun x y => decide (x ≤ y))
 have s1 := List.pairwise_mergeSort (le := fun (x y : Int) => decide (x ≤ y)) (by intro a b c; simp; omega) (by intro a b; simp; omega) vs
 generalize vs.mergeSort (fun x y => decide (x ≤ y)) = l at hp s1
 have hs : ∀ i j, i ≤ j → j < l.toArray.size → l.toArray[i]! ≤ l.toArray[j]! := by
  intro i j hij hj
  have hj' : j < l.length := by simpa using hj
  rw [getElem!_pos l.toArray i (by simpa using (by omega : i < l.length)), getElem!_pos l.toArray j hj]
  rcases Nat.lt_or_ge i j with q | q
  ·have := List.pairwise_iff_getElem.1 s1 i j (by omega) hj' q
   simpa using this
  ·obtain rfl : i = j := by omega
   exact Int.le_refl _
 obtain ⟨a, b, c⟩ := compactUpTo_ok l.toArray hs l.length (by simp)
 have hmem : ∀ x, x ∈ Go.Lib.compact l ↔ x ∈ finV vs := by
  intro x
  rw [finV_mem vs hv, ← hp.mem_iff]
  unfold Go.Lib.compact
  constructor
  ·intro hx
   obtain ⟨j, hj, rfl⟩ := b x hx
   rw [getElem!_pos l.toArray j (by simpa using hj)]
   simp
  ·intro hx
   obtain ⟨j, hj, rfl⟩ := List.getElem_of_mem hx
   have := c j hj
   rwa [getElem!_pos l.toArray j (by simpa using hj)] at this
 have nd : ∀ {q : List Int}, (q.Pairwise fun x y => x < y) → q.Nodup := fun h => h.imp (fun h => by omega)
 exact ((List.perm_ext_iff_of_nodup (nd a) (nd (finV_lt vs))).2 hmem).eq_of_pairwise (le := fun x y => x ≤ y) (fun a b _ _ h1 h2 => by omega) (a.imp (fun h => by omega)) ((finV_lt vs).imp (fun h => by omega))
def finalsV (m : List Int) (hs : List Hh) (n c : Int) : List Int := if 0 ≤ c ∧ c ≤ 23 then finV (valsV (endsV m hs n) c) else []
theorem vals_w (m : List Int) (hs : List Hh) (n c : Int) (hc : 0 ≤ c ∧ c ≤ 23) : ∀ x ∈ valsV (endsV m hs n) c, 0 ≤ x ∧ x ≤ 65535 := by
 intro x hx
 obtain ⟨r, hr, rfl⟩ := List.mem_map.1 hx
 have hw := endsV_w m hs n r hr
 have l := wordsB_24 hw
 obtain ⟨j, rfl⟩ : ∃ j : Nat, c = (j : Int) := ⟨c.toNat, by omega⟩
 exact wordsB_mem hw _ (rd_mem r j (by omega))
theorem finalsV_len (m : List Int) (hs : List Hh) (n c : Int) : (finalsV m hs n c).length ≤ 65536 := by
 unfold finalsV
 split
 ·unfold finV
  rw [List.length_map]
  have := List.length_filter_le (fun (w : Nat) => decide ((w : Int) ∈ valsV (endsV m hs n) c)) (List.range 65536)
  rwa [List.length_range] at this
 ·simp
theorem rdLF (l : List (List Int)) (i : Nat) (h : i < l.length) : rd_L3 l (i : Int) = l[i] := by
 unfold rd_L3; simp [List.getD, h]
theorem implFinals_eq (m : List Int) (hs : List Hh) (n c : Int) (hm : m.length ≤ 1048576) (hl : hs.length ≤ 1048576) (hx : ∀ h ∈ hs, h.f0.length ≤ 1048576) (k : Nat) (hk : 8000000 < k) : impl_Finals.f k m hs n c = some (finalsV m hs n c) := by
 unfold impl_Finals.f finalsV
 rw [Option.bind_some, isCell_eq, Option.bind_some]
 by_cases cc : 0 ≤ c ∧ c ≤ 23
 ·rw [if_pos (decide_eq_true cc), if_pos cc, implEnds2_eq m hs n hm hl hx k (by omega), Option.bind_some]
  have hw := vals_w m hs n c cc
  obtain ⟨v1, v2⟩ := endsV_ok m hs n
  generalize endsV m hs n = V at hw v1 v2
  have h := for_st V.length (fun k i (s : List Int) => impl_Finals.l0 k c s V (V.length : Int) (i : Int)) (fun i => valsV (V.take i) c) (finV (valsV V c)) ?_ ?_ k 0 (Nat.zero_le _) (by omega)
  ·exact h
  ·intro k i hi
   have l24 := v2 _ (List.getElem_mem hi)
   have ht : valsV (V.take (i + 1)) c = valsV (V.take i) c ++ [rd V[i] c] := by rw [← snoc_step V i hi]; unfold valsV; rw [List.map_append]; rfl
   have hlen : (valsV (V.take i) c).length ≤ 40 := by unfold valsV; rw [List.length_map, List.length_take]; omega
   rw [ht, impl_Finals.l0, if_pos (by omega), if_pos (by omega), if_pos (by omega), if_pos (by omega), rdLF V i hi, if_pos (by omega), if_pos (by omega), wrap_succ (by omega)]
  ·intro k
   rw [impl_Finals.l0, if_neg (by omega), List.take_length]
   have hlen : (valsV V c).length ≤ 40 := by unfold valsV; rw [List.length_map]; omega
   unfold slices_Sort_int_int.f slices_Compact_int_int.f
   rw [if_pos (by omega), Option.bind_some]
   by_cases c0 : valsV V c = []
   ·rw [c0, finV_nil, List.mergeSort_nil]; rfl
   ·have : 0 < (valsV V c).length := List.length_pos_iff.2 c0
    rw [if_pos (by rw [List.length_mergeSort]; exact this), Option.bind_some, compact_sort _ hw]
 ·rw [if_neg (by simpa using cc), if_neg cc]
def seenB (vs : List Int) : List Bool := (List.range 65536).map fun (w : Nat) => decide ((w : Int) ∈ vs)
theorem seenB_nil : List.replicate 65536 false = seenB [] := by
 unfold seenB
 rw [show (fun (w : Nat) => decide ((w : Int) ∈ ([] : List Int))) = fun _ => false from funext fun w => by simp, List.map_const', List.length_range]
theorem seenB_len (vs : List Int) : (seenB vs).length = 65536 := by unfold seenB; rw [List.length_map, List.length_range]
theorem seenB_at (vs : List Int) (i : Nat) (h : i < 65536) : (seenB vs)[i]? = some (decide ((i : Int) ∈ vs)) := by
 unfold seenB
 rw [List.getElem?_map, List.getElem?_range h]; rfl
theorem seenB_set (vs : List Int) (v : Int) (h : 0 ≤ v ∧ v ≤ 65535) : (seenB vs).set v.toNat true = seenB (vs ++ [v]) := by
 apply List.ext_getElem?
 intro i
 by_cases hi : i < 65536
 ·rw [List.getElem?_set, seenB_at _ i hi, seenB_at _ i hi, seenB_len]
  by_cases e : v.toNat = i
  ·rw [if_pos e, if_pos (by omega), decide_eq_true]; exact List.mem_append_right _ (List.mem_singleton.2 (by omega))
  ·rw [if_neg e]
   refine congrArg some ?_
   rw [Bool.eq_iff_iff, decide_eq_true_iff, decide_eq_true_iff, List.mem_append, List.mem_singleton]
   constructor
   ·exact .inl
   ·rintro (h | h)
    ·exact h
    ·omega
 ·rw [List.getElem?_eq_none (by rw [List.length_set, seenB_len]; omega), List.getElem?_eq_none (by rw [seenB_len]; omega)]
theorem specFin_l1 (vs : List Int) (k : Nat) (hk : 65540 < k) : spec_Finals.l1 k (seenB vs) [] 0 = some (finV vs) := by
 have h := for_st 65536 (fun k i (s : List Int) => spec_Finals.l1 k (seenB vs) s (i : Int)) (fun i => ((List.range i).filter fun (w : Nat) => decide ((w : Int) ∈ vs)).map fun (w : Nat) => (w : Int)) (finV vs) ?_ ?_ k 0 (Nat.zero_le _) (by omega)
 ·exact h
 ·intro k i hi
  have hlen : (((List.range i).filter fun (w : Nat) => decide ((w : Int) ∈ vs)).map fun (w : Nat) => (w : Int)).length ≤ 65536 := by
   rw [List.length_map]
   have := List.length_filter_le (fun (w : Nat) => decide ((w : Int) ∈ vs)) (List.range i)
   rw [List.length_range] at this
   omega
  have hr : rdOf false (seenB vs) (i : Int) = decide ((i : Int) ∈ vs) := by
   unfold rdOf seenB
   rw [Int.toNat_natCast, List.getD_eq_getElem?_getD, List.getElem?_map, List.getElem?_range hi]; rfl
  rw [spec_Finals.l1, seenB_len, if_pos (by omega), if_pos (by omega), hr, List.range_succ, List.filter_append, List.map_append]
  by_cases c : (i : Int) ∈ vs
  ·rw [if_pos (decide_eq_true c), if_pos (by omega), wrap_succ (by omega), List.filter_cons, if_pos (decide_eq_true c)]; rfl
  ·rw [if_neg (by simpa using c), wrap_succ (by omega), List.filter_cons, if_neg (by simpa using c)]
   rw [List.filter_nil, List.map_nil, List.append_nil]
 ·intro k
  rw [spec_Finals.l1, seenB_len, if_neg (by omega)]; rfl
theorem specFinals_eq (m : List Int) (hs : List Hh) (n c : Int) (hm : m.length ≤ 1048576) (hl : hs.length ≤ 1048576) (hx : ∀ h ∈ hs, h.f0.length ≤ 1048576) (k : Nat) (hk : 8000000 < k) : spec_Finals.f k m hs n c = some (finalsV m hs n c) := by
 unfold spec_Finals.f finalsV
 rw [specEnds2_eq m hs n hm hl hx k (by omega), Option.bind_some, seenB_nil]
 have j1 : ∀ (vs : List Int) (k : Nat), 65550 < k → spec_Finals.j1 k (seenB vs) = some (finV vs) := by
  intro vs k hk
  obtain ⟨k, rfl⟩ : ∃ q, k = q + 1 := ⟨k - 1, by omega⟩
  rw [spec_Finals.j1]; exact specFin_l1 vs k (by omega)
 by_cases cc : 0 ≤ c ∧ c ≤ 23
 ·rw [if_pos cc]
  have hw := vals_w m hs n c cc
  obtain ⟨v1, v2⟩ := endsV_ok m hs n
  generalize endsV m hs n = V at hw v1 v2
  obtain ⟨C, hC⟩ : ∃ C : Nat, C = 70000 := ⟨_, rfl⟩
  have h := for_st V.length (fun k i (s : List Int) => spec_Finals.l0 (k + C) c (seenB s) V (i : Int)) (fun i => valsV (V.take i) c) (finV (valsV V c)) ?_ ?_ (k - C) 0 (Nat.zero_le _) (by omega)
  ·rw [show k - C + C = k by omega] at h; exact h
  ·intro k i hi
   rw [show k + 1 + C = (k + C) + 1 by omega]
   have l24 := v2 _ (List.getElem_mem hi)
   have ht : valsV (V.take (i + 1)) c = valsV (V.take i) c ++ [rd V[i] c] := by rw [← snoc_step V i hi]; unfold valsV; rw [List.map_append]; rfl
   have hv := hw (rd V[i] c) (List.mem_map.2 ⟨_, List.getElem_mem hi, rfl⟩)
   simp only [spec_Finals.l0]
   rw [if_pos (by omega), l1In_eq, Option.bind_some, if_pos (decide_eq_true cc), if_pos (by omega), if_pos (by omega), rdLF V i hi, if_pos (by omega), if_pos (by omega), seenB_len, if_pos (by omega), seenB_set _ _ hv, wrap_succ (by omega), ht]
  ·intro k
   rw [show k + 1 + C = (k + C) + 1 by omega]
   simp only [spec_Finals.l0]
   rw [if_neg (by omega), j1 _ _ (by omega), List.take_length]
 ·rw [if_neg cc]
  obtain ⟨k, rfl⟩ : ∃ q, k = q + 1 := ⟨k - 1, by omega⟩
  simp only [spec_Finals.l0]
  by_cases c0 : (0 : Int) < ((endsV m hs n).length : Int)
  ·rw [if_pos c0, l1In_eq, Option.bind_some, if_neg (by simpa using cc), j1 [] k (by omega), finV_nil]
  ·rw [if_neg c0, j1 [] k (by omega), finV_nil]
theorem implAlways_eq (m : List Int) (hs : List Hh) (n c w : Int) (hm : m.length ≤ 1048576) (hl : hs.length ≤ 1048576) (hx : ∀ h ∈ hs, h.f0.length ≤ 1048576) (k : Nat) (hk : 8000000 < k) : impl_Always.f k m hs n c w = some (decide (finalsV m hs n c = [w])) := by
 unfold impl_Always.f
 have v1 := finalsV_len m hs n c
 rw [implFinals_eq m hs n c hm hl hx k hk, Option.bind_some, slEqual_eq _ _ (by omega) k (by omega)]; rfl
theorem implEver_eq (m : List Int) (hs : List Hh) (n c w : Int) (hm : m.length ≤ 1048576) (hl : hs.length ≤ 1048576) (hx : ∀ h ∈ hs, h.f0.length ≤ 1048576) (k : Nat) (hk : 8000000 < k) : impl_Ever.f k m hs n c w = some (decide (w ∈ finalsV m hs n c)) := by
 unfold impl_Ever.f
 have v1 := finalsV_len m hs n c
 rw [implFinals_eq m hs n c hm hl hx k hk, Option.bind_some, contains_eq _ _ (by omega) k (by omega)]; rfl
theorem at_exE (l : List Int) (hl : l.length ≤ 1048576) (hb : ∀ x, x ∈ l → 0 ≤ x ∧ x ≤ 255) (i : Nat) (hi : i ≤ 1000) : ∃ v, laws_at.f l (i : Int) = some v ∧ 0 ≤ v ∧ v ≤ 100000 := by
 unfold laws_at.f
 by_cases c : (i : Int) < (l.length : Int)
 ·rw [if_pos c, if_pos (by omega)]
  have := hb _ (rd_mem l i (by omega))
  exact ⟨_, rfl, by rw [wrap_small (by omega) (by omega)]; omega⟩
 ·rw [if_neg c]
  rw [wrap_small (x := (i : Int) * 7) (by omega) (by omega), wrap_small (by omega) (by omega), tmod_pos _ _ (by omega)]
  exact ⟨_, rfl, by omega⟩
theorem bytes_wfE {l : List Int} (h : ∀ x ∈ l, (Lit.int .u8 x).wf = true) : ∀ x, x ∈ l → 0 ≤ x ∧ x ≤ 255 := by
 intro x hx
 have := h x hx
 have e1 : IntKind.u8.min = 0 := by decide
 have e2 : IntKind.u8.max = 255 := by decide
 simp [Lit.wf, e1, e2] at this
 omega
def mC (v : Int) : List Int := [0, 0, 0, 1025, 1041, 20966, 266, 9223, 5128, 9, 0, 0, 0, 0, 0, 0, 0, 0, 0, 0, v, 0, 0, 0]
def mL (v : Int) : List Int := [0, 0, 0, 1025, 1041, 20708, 418, 21189, 266, 11271, 5128, 9, 0, 0, 0, 0, 0, 0, 0, 0, v, 0, 0, 0]
theorem placeC1 : placeV (List.replicate 24 0) 3 (countCodeW 20 1 3) = (mC 0, true) := by decide +kernel
theorem placeL1 : placeV (List.replicate 24 0) 3 (loseCodeW 20 1 3) = (mL 0, true) := by decide +kernel
set_option maxRecDepth 100000 in
theorem c8 : addAll [] (leaves 8 (mC 0) twoX) = [mC 2] := by decide +kernel
set_option maxRecDepth 100000 in
theorem c12 : addAll [] (leaves 12 (mL 0) twoX) = [mL 2, mL 1] := by decide +kernel
theorem endsC : endsV (mC 0) twoX 8 = [mC 2] := by
 unfold endsV
 rw [if_pos (by decide +kernel)]
 exact c8
theorem endsL : endsV (mL 0) twoX 12 = [mL 2, mL 1] := by
 unfold endsV
 rw [if_pos (by decide +kernel)]
 exact c12
theorem finV_one (x : Int) (hx : 0 ≤ x ∧ x ≤ 65535) : finV [x] = [x] := by
 have nd : ∀ {q : List Int}, (q.Pairwise fun x y => x < y) → q.Nodup := fun h => h.imp (fun h => by omega)
 have h1 := finV_lt [x]
 have hm := finV_mem [x] (fun y hy => by rw [List.mem_singleton] at hy; subst hy; exact hx)
 generalize finV [x] = l at h1 hm
 match l with
 | [] => exact absurd ((hm x).2 (List.mem_singleton.2 rfl)) (by simp)
 | [y] => rw [List.mem_singleton.1 ((hm y).1 (by simp))]
 | y :: z :: r =>
  have a := List.mem_singleton.1 ((hm y).1 (by simp))
  have b := List.mem_singleton.1 ((hm z).1 (by simp))
  have := (List.pairwise_cons.1 h1).1 z (by simp)
  omega
theorem finC : finalsV (mC 0) twoX 8 20 = [2] := by
 unfold finalsV
 rw [if_pos (by omega), endsC, show valsV [mC 2] 20 = [2] from rfl]
 exact finV_one 2 (by omega)
theorem finL (x : Int) : x ∈ finalsV (mL 0) twoX 12 20 ↔ x ∈ ([2, 1] : List Int) := by
 unfold finalsV
 rw [if_pos (by omega), endsL, show valsV [mL 2, mL 1] 20 = [2, 1] from rfl]
 exact finV_mem _ (by intro y hy; simp at hy; omega) x
theorem FnAllCounts : laws_FnAllCounts.Pure := by
 intro l0 _ _ hwf
 have hb := bytes_wfE hwf
 obtain ⟨K, hK⟩ : ∃ K : Nat, 10000000 ≤ K := ⟨_, Nat.le_refl _⟩
 refine ⟨K, ?_⟩
 unfold laws_FnAllCounts.f laws_big.f
 rw [Option.bind_some]
 by_cases hbig : (l0.length : Int) > 1048576
 ·rw [decide_eq_true hbig, if_pos rfl]
 rw [decide_eq_false hbig, if_neg (by simp)]
 obtain ⟨v, e1, p1⟩ := at_exE l0 (by omega) hb 1 (by omega)
 have e1' : laws_at.f l0 1 = some v := e1
 have hx : ∀ h ∈ twoX, h.f0.length ≤ 1048576 := by decide
 have hl : twoX.length ≤ 1048576 := by decide
 have lC : (mC 0).length ≤ 1048576 := by decide
 have lL : (mL 0).length ≤ 1048576 := by decide
 rw [implCountCode_eq _ _ _ _ (by omega), Option.bind_some, implLoseCode_eq _ _ _ _ (by omega), Option.bind_some]
 dsimp only
 rw [implPlace_eq _ _ _ (by simp) (Nat.le_trans (countCodeW_length 20 1 3) (by omega)) K (by omega), placeC1, Option.bind_some, implPlace_eq _ _ _ (by simp) (Nat.le_trans (loseCodeW_length 20 1 3) (by omega)) K (by omega), placeL1, Option.bind_some, e1', Option.bind_some]
 dsimp only
 by_cases c : Int.tmod v 2 = 0
 ·rw [if_pos c, implAlways_eq _ _ _ _ _ lC hl hx K (by omega), Option.bind_some, finC, if_pos (decide_eq_true rfl), implFinals_eq _ _ _ _ lC hl hx K (by omega), Option.bind_some, specFinals_eq _ _ _ _ lC hl hx K (by omega), Option.bind_some, sameInts_same _ (by rw [finC]; decide) K (by omega)]
 ·rw [if_neg c, implEver_eq _ _ _ _ _ lL hl hx K (by omega), Option.bind_some, if_pos (decide_eq_true ((finL 2).2 (by decide))), implEver_eq _ _ _ _ _ lL hl hx K (by omega), Option.bind_some, if_pos (decide_eq_true ((finL 1).2 (by decide))), implEver_eq _ _ _ _ _ lL hl hx K (by omega), Option.bind_some, decide_eq_false (fun h => absurd ((finL 3).1 h) (by decide))]
  rfl
end Go.Proofs.Ytnjdepmlpdjghaa.Pure
