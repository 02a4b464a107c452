/- For all bytes: the memory behind any order of a few steps of harts that are drawn from them is among those behind all orders, which are told as the reference tells them, each once: no conditions. -/
import Derived.Test.YtnjdepmlpdjghaaPFnAllEndsx18
namespace Go.Proofs.Ytnjdepmlpdjghaa.Pure
open Go.RowKit Go.Proofs.Ytnjdepmlpdjghaa.PFnAllEnds Go.Proofs.YtnjdepmlpdjghaaW.PrintWords Go.Proofs.YtnjdepmlpdjghaaW.PrintLast
set_option linter.unusedVariables false
set_option linter.unusedSimpArgs false

theorem wrap_small {x : Int} (h0 : -9223372036854775808 ≤ x) (h : x ≤ 9223372036854775807) : wrap64 x = x := by
 unfold wrap64; omega
theorem wrap_succ {i : Nat} (h : i < 4611686018427387904) : wrap64 ((i : Int) + 1) = ((i + 1 : Nat) : Int) := by
 unfold wrap64; omega
theorem rd_nat (l : List Int) (i : Nat) (h : i < l.length) : rd l (i : Int) = l[i] := by
 unfold rd; simp [List.getD, h]
theorem rd_mem (l : List Int) (i : Nat) (h : i < l.length) : rd l (i : Int) ∈ l := by
 rw [rd_nat l i h]; exact List.getElem_mem h
theorem for_st {σ ρ : Type} (n : Nat) (L : Nat → Nat → σ → Option ρ) (st : Nat → σ) (r : ρ) (hs : ∀ k i, i < n → L (k + 1) i (st i) = L k (i + 1) (st (i + 1))) (he : ∀ k, L (k + 1) n (st n) = some r) :
  ∀ (k i : Nat), i ≤ n → n < i + k → L k i (st i) = some r
 | 0, i, hi, hk => by omega
 | k + 1, i, hi, hk => by
  by_cases h : i < n
  ·rw [hs k i h]; exact for_st n L st r hs he k (i + 1) (by omega) (by omega)
  ·have : i = n := by omega
   subst this; exact he k
theorem for_find {ρ : Type} (n : Nat) (L : Nat → Nat → Option ρ) (p : Nat → Prop) (b : Nat → ρ) (r : ρ) (hs : ∀ k i, i < n → ¬ p i → L (k + 1) i = L k (i + 1)) (hb : ∀ k i, i < n → p i → L (k + 1) i = some (b i)) (he : ∀ k, L (k + 1) n = some r) :
  ∀ (k i : Nat), i ≤ n → n < i + k → (∃ j, i ≤ j ∧ j < n ∧ p j ∧ (∀ m, i ≤ m → m < j → ¬ p m) ∧ L k i = some (b j)) ∨ (∀ j, i ≤ j → j < n → ¬ p j) ∧ L k i = some r
 | 0, i, hi, hk => by omega
 | k + 1, i, hi, hk => by
  by_cases h : i < n
  ·by_cases hp : p i
   ·exact .inl ⟨i, Nat.le_refl _, h, hp, fun m h1 h2 => by omega, hb k i h hp⟩
   ·rw [hs k i h hp]
    rcases for_find n L p b r hs hb he k (i + 1) (by omega) (by omega) with ⟨j, h1, h2, h3, h4, h5⟩ | ⟨h1, h2⟩
    ·refine .inl ⟨j, by omega, h2, h3, fun m hm1 hm2 => ?_, h5⟩
     by_cases e : m = i
     ·subst e; exact hp
     ·exact h4 m (by omega) hm2
    ·refine .inr ⟨fun j hj1 hj2 => ?_, h2⟩
     by_cases e : j = i
     ·subst e; exact hp
     ·exact h1 j (by omega) hj2
  ·have : i = n := by omega
   subst this; exact .inr ⟨fun j h1 h2 => by omega, he k⟩
theorem for_all {n : Nat} {L : Nat → Nat → Option Bool} (p : Nat → Prop) (hs : ∀ k i, i < n → p i → L (k + 1) i = L k (i + 1)) (hb : ∀ k i, i < n → ¬ p i → L (k + 1) i = some false) (c : Bool) (he : ∀ k, L (k + 1) n = some c) {q : Bool}
  (hq : q = true ↔ (∀ j, j < n → p j) ∧ c = true) (k : Nat) (hk : n < k) : L k 0 = some q := by
 rcases for_find n L (fun i => ¬ p i) (fun _ => false) c (fun k i h hp => hs k i h (Classical.not_not.1 hp)) (fun k i h hp => hb k i h hp) he k 0 (Nat.zero_le _) (by omega) with ⟨j, _, h2, h3, _, h5⟩ | ⟨h1, h2⟩
 ·rw [h5]; congr 1; symm
  rw [Bool.eq_false_iff]; intro hh; exact h3 ((hq.1 hh).1 j h2)
 ·rw [h2]; congr 1
  have : ∀ j, j < n → p j := fun j hj => Classical.not_not.1 (h1 j (Nat.zero_le _) hj)
  rw [Bool.eq_iff_iff, hq]; exact ⟨fun h => ⟨this, h⟩, fun h => h.2⟩
theorem snoc_step {α : Type} (a : List α) (i : Nat) (hi : i < a.length) : a.take i ++ [a[i]'hi] = a.take (i + 1) := by
 rw [List.take_succ_eq_append_getElem hi]
theorem eq_iff_all (a b : List Int) (h : a.length = b.length) : a = b ↔ ∀ j, j < a.length → rd a (j : Int) = rd b (j : Int) := by
 constructor
 ·rintro rfl j _; rfl
 ·intro hh; refine List.ext_getElem h (fun j h1 h2 => ?_)
  have := hh j h1
  rwa [rd_nat a j h1, rd_nat b j h2] at this
theorem wraps_i64 (n : Int) (h0 : 0 ≤ n) (h1 : n < 2 ^ 62) : IntKind.i64.wrap n = n := by rw [IntKind.wrap_i64]; omega
theorem idx_any {n : Nat} (L : Nat → Nat → Option Int) (q : Nat → Bool) (hs : ∀ k i, i < n → q i = false → L (k + 1) i = L k (i + 1)) (hb : ∀ k i, i < n → q i = true → L (k + 1) i = some (i : Int)) (he : ∀ k, L (k + 1) n = some (-1)) (r : Bool)
  (hr : r = true ↔ ∃ j, j < n ∧ q j = true) (k : Nat) (hk : n < k) : ∃ v, L k 0 = some v ∧ decide (v ≥ 0) = r := by
 rcases for_find n L (fun i => q i = true) (fun i => (i : Int)) (-1) (fun k i h hp => hs k i h (by simpa using hp)) hb he k 0 (Nat.zero_le _) (by omega) with ⟨j, _, h2, h3, _, h5⟩ | ⟨h1, h2⟩
 ·refine ⟨_, h5, ?_⟩
  rw [decide_eq_true (by omega : (j : Int) ≥ 0)]; exact (hr.2 ⟨j, h2, h3⟩).symm
 ·refine ⟨_, h2, ?_⟩
  rw [decide_eq_false (by omega : ¬ (-1 : Int) ≥ 0)]; symm; rw [Bool.eq_false_iff]; intro hh
  obtain ⟨j, hj, hq⟩ := hr.1 hh
  exact h1 j (Nat.zero_le _) hj hq
def wordsB (l : List Int) (n : Int) : Bool := decide ((l.length : Int) = n) && l.all (fun x => decide (0 ≤ x ∧ x ≤ 65535))
theorem wordsB_mem {l : List Int} {n : Int} (h : wordsB l n = true) (x : Int) (hx : x ∈ l) : 0 ≤ x ∧ x ≤ 65535 := by
 unfold wordsB at h; rw [Bool.and_eq_true, List.all_eq_true] at h; exact of_decide_eq_true (h.2 x hx)
def hartB (regs : List Int) (pc st : Int) : Bool := wordsB regs 4 && (decide (0 ≤ pc ∧ pc ≤ 23) && decide (0 ≤ st ∧ st ≤ 2))
theorem ite_some' (b c : Bool) : (if b = true then some c else some false) = some (b && c) := by cases b <;> rfl
theorem hartB_len {r : List Int} {p s : Int} (h : hartB r p s = true) : r.length = 4 := by
 unfold hartB wordsB at h; rw [Bool.and_eq_true, Bool.and_eq_true] at h; have := of_decide_eq_true h.1.1; omega
theorem wordsB_24 {l : List Int} (h : wordsB l 24 = true) : l.length = 24 := by unfold wordsB at h; rw [Bool.and_eq_true] at h; have := of_decide_eq_true h.1; omega
theorem tmod_pos (n c : Int) (h : 0 ≤ n) : Int.tmod n c = n % c := Int.tmod_eq_emod_of_nonneg h
theorem tmod_neg (n c : Int) (h : n < 0) : Int.tmod n c = -((-n) % c) := by
 rw [← Int.tmod_eq_emod_of_nonneg (by omega : 0 ≤ -n), Int.neg_tmod, Int.neg_neg]
theorem tdiv_pos (n c : Int) (h : 0 ≤ n) : Int.tdiv n c = n / c := Int.tdiv_eq_ediv_of_nonneg h
theorem tmod_up (n c : Int) (hc : 0 < c) (hb : c ≤ 4294967296) : Int.tmod (Int.tmod n c + c) c = n % c := by
 have h1 := Int.emod_nonneg n (by omega : c ≠ 0)
 have h2 := Int.emod_lt_of_pos n hc
 rcases Int.lt_or_le n 0 with h | h
 ·rw [tmod_neg n c h]
  have h3 := Int.emod_nonneg (-n) (by omega : c ≠ 0)
  have h4 := Int.emod_lt_of_pos (-n) hc
  rw [tmod_pos _ _ (by omega), Int.add_emod_right, ← Int.sub_emod_right]
  have := Int.emod_add_mul_ediv (-n) c
  have e : -(-n % c) - c = n + c * ((-n) / c - 1) := by
   have : n = -(-n % c) - c * ((-n) / c) := by omega
   rw [Int.mul_sub]; omega
  rw [e, Int.add_mul_emod_self_left]
 ·rw [tmod_pos n c h, tmod_pos _ _ (by omega), Int.add_emod_right, Int.emod_emod_of_dvd _ (Int.dvd_refl c)]
theorem tmod_bd (n c : Int) (hc : 0 < c) : -c < Int.tmod n c ∧ Int.tmod n c < c := by
 rcases Int.lt_or_le n 0 with h | h
 ·rw [tmod_neg n c h]
  have h3 := Int.emod_nonneg (-n) (by omega : c ≠ 0)
  have h4 := Int.emod_lt_of_pos (-n) hc
  omega
 ·rw [tmod_pos n c h]
  have h3 := Int.emod_nonneg n (by omega : c ≠ 0)
  have h4 := Int.emod_lt_of_pos n hc
  omega
theorem l1In_eq (x lo hi : Int) : spec_l1In.f x lo hi = some (decide (lo ≤ x ∧ x ≤ hi)) := by
 unfold spec_l1In.f
 by_cases h : x ≥ lo
 ·rw [if_pos h]; have h' : lo ≤ x := h; simp [h']
 ·rw [if_neg h]; have h' : ¬ lo ≤ x := h; simp [h']
theorem from_eq (x lo hi : Int) : impl_from.f x lo hi = some (decide (lo ≤ x ∧ x ≤ hi)) := by
 unfold impl_from.f
 by_cases h : x ≥ lo
 ·rw [if_pos h]; have h' : lo ≤ x := h; simp [h']
 ·rw [if_neg h]; have h' : ¬ lo ≤ x := h; simp [h']
theorem isWord_eq (x : Int) : impl_isWord.f x = some (decide (0 ≤ x ∧ x ≤ 65535)) := by
 unfold impl_isWord.f; rw [from_eq]; rfl
theorem isCell_eq (x : Int) : impl_isCell.f x = some (decide (0 ≤ x ∧ x ≤ 23)) := by
 unfold impl_isCell.f; rw [from_eq]; rfl
theorem l1Words_eq (l : List Int) (n : Int) (hl : l.length ≤ 2097152) (k : Nat) (hk : l.length < k) : spec_l1Words.f k l n = some (wordsB l n) := by
 unfold spec_l1Words.f
 refine for_all (L := fun k i => spec_l1Words.l0 k l n (i : Int)) (n := l.length) (fun j => 0 ≤ rd l (j : Int) ∧ rd l (j : Int) ≤ 65535) ?_ ?_ (decide ((l.length : Int) = n)) ?_ ?_ k hk
 ·intro k i hi hp
  simp only [spec_l1Words.l0]
  rw [if_pos (by omega), if_pos (by omega), l1In_eq, decide_eq_true hp, Option.bind_some, if_pos rfl, wrap_succ (by omega)]
 ·intro k i hi hp
  simp only [spec_l1Words.l0]
  rw [if_pos (by omega), if_pos (by omega), l1In_eq, decide_eq_false hp, Option.bind_some, if_neg (by simp)]
 ·intro k
  simp only [spec_l1Words.l0]
  rw [if_neg (by omega)]; rfl
 ·unfold wordsB
  rw [Bool.and_eq_true, List.all_eq_true]
  constructor
  ·rintro ⟨h1, h2⟩; exact ⟨fun j hj => of_decide_eq_true (h2 _ (rd_mem l j hj)), h1⟩
  ·rintro ⟨h1, h2⟩; refine ⟨h2, fun x hx => ?_⟩
   obtain ⟨j, hj, rfl⟩ := List.getElem_of_mem hx
   have := h1 j hj; rw [rd_nat l j hj] at this; exact decide_eq_true this
theorem wordsOk_eq (l : List Int) (n : Int) (hl : l.length ≤ 2097152) (k : Nat) (hk : l.length < k) : impl_wordsOk.f k l n = some (wordsB l n) := by
 unfold impl_wordsOk.f
 by_cases h : (l.length : Int) = n
 ·rw [if_pos h]
  unfold slices_ContainsFunc_at_impl_wordsOk_1.f slices_IndexFunc_at_impl_wordsOk_1.f
  have hf : ∀ x, impl_wordsOk_1.f x = some (!decide (0 ≤ x ∧ x ≤ 65535)) := fun x => by unfold impl_wordsOk_1.f; rw [isWord_eq]; rfl
  have hs : ∀ k i, i < l.length → ¬ ¬ (0 ≤ rd l (i : Int) ∧ rd l (i : Int) ≤ 65535) → slices_IndexFunc_at_impl_wordsOk_1.l0 (k + 1) l (l.length : Int) (i : Int) = slices_IndexFunc_at_impl_wordsOk_1.l0 k l (l.length : Int) ((i + 1 : Nat) : Int) := by
   intro k i hi hp
   simp only [slices_IndexFunc_at_impl_wordsOk_1.l0]
   rw [if_pos (by omega), if_pos (by omega), if_pos (by omega), hf, decide_eq_true (Classical.not_not.1 hp), Option.bind_some, if_neg (by simp), wrap_succ (by omega)]
  have hb : ∀ k i, i < l.length → ¬ (0 ≤ rd l (i : Int) ∧ rd l (i : Int) ≤ 65535) → slices_IndexFunc_at_impl_wordsOk_1.l0 (k + 1) l (l.length : Int) (i : Int) = some (i : Int) := by
   intro k i hi hp
   simp only [slices_IndexFunc_at_impl_wordsOk_1.l0]
   rw [if_pos (by omega), if_pos (by omega), if_pos (by omega), hf, decide_eq_false hp, Option.bind_some, if_pos (by simp)]
  have he : ∀ k, slices_IndexFunc_at_impl_wordsOk_1.l0 (k + 1) l (l.length : Int) (l.length : Int) = some (-1) := by
   intro k
   simp only [slices_IndexFunc_at_impl_wordsOk_1.l0]
   rw [if_neg (by omega)]
  rcases for_find l.length (fun k i => slices_IndexFunc_at_impl_wordsOk_1.l0 k l (l.length : Int) (i : Int)) (fun j => ¬ (0 ≤ rd l (j : Int) ∧ rd l (j : Int) ≤ 65535)) (fun j => (j : Int)) (-1) hs hb he k 0 (Nat.zero_le _) (by omega) with ⟨j, _, h2, h3, _, h5⟩ | ⟨h1, h2⟩
  ·have h5' : slices_IndexFunc_at_impl_wordsOk_1.l0 k l (l.length : Int) 0 = some (j : Int) := h5
   rw [h5']
   simp only [Option.bind_some]; congr 1; symm
   rw [decide_eq_true (by omega : (j : Int) ≥ 0), Bool.not_true, wordsB, Bool.and_eq_false_iff]; right
   rw [Bool.eq_false_iff]; intro hh
   exact h3 (of_decide_eq_true (List.all_eq_true.1 hh _ (rd_mem l j h2)))
  ·have h2' : slices_IndexFunc_at_impl_wordsOk_1.l0 k l (l.length : Int) 0 = some (-1) := h2
   rw [h2']
   simp only [Option.bind_some]; congr 1; symm
   rw [decide_eq_false (by omega : ¬ (-1 : Int) ≥ 0), Bool.not_false, wordsB, decide_eq_true h, Bool.true_and, List.all_eq_true]
   intro x hx
   obtain ⟨j, hj, rfl⟩ := List.getElem_of_mem hx
   have := Classical.not_not.1 (h1 j (Nat.zero_le _) hj); rw [rd_nat l j hj] at this; exact decide_eq_true this
 ·rw [if_neg h, wordsB, decide_eq_false h, Bool.false_and]
theorem memOk_eq (l : List Int) (hl : l.length ≤ 2097152) (k : Nat) (hk : l.length < k) : impl_memOk.f k l = some (wordsB l 24) := by
 unfold impl_memOk.f; rw [wordsOk_eq l 24 hl k hk]; rfl
def twoB (l : List Int) : List Int := l.flatMap fun x => [x / 256 % 256, x % 256]
theorem twoB_length (l : List Int) : (twoB l).length = 2 * l.length := by
 induction l with
 | nil => rfl
 | cons x l ih => simp [twoB] at ih ⊢; omega
theorem twoB_snoc (l : List Int) (x : Int) : twoB (l ++ [x]) = twoB l ++ [x / 256 % 256, x % 256] := by simp [twoB]
theorem twoBytes_eq (l : List Int) (hl : l.length ≤ 2097152) (k : Nat) (hk : l.length < k) : impl_twoBytes.f k l = some (twoB l) := by
 unfold impl_twoBytes.f
 have h := for_st l.length (fun k i (s : List Int) => impl_twoBytes.l0 k s l (l.length : Int) (i : Int)) (fun i => twoB (l.take i)) (twoB l) ?_ ?_ k 0 (Nat.zero_le _) (by omega)
 ·simpa [twoB] using h
 ·intro k i hi
  simp only [impl_twoBytes.l0]
  rw [if_pos (by omega), if_pos (by omega), if_pos (by omega), Option.bind_some, if_pos (by rw [twoB_length, List.length_take]; simp; omega), wrap_succ (by omega), rd_nat l i hi, ← twoB_snoc, snoc_step l i hi]
 ·intro k
  simp only [impl_twoBytes.l0]
  rw [if_neg (by omega)]; simp
def memB (l : List Int) : List Int := if wordsB l 24 = true then twoB l else []
theorem implMemBytes_eq (l : List Int) (hl : l.length ≤ 2097152) (k : Nat) (hk : l.length < k) : impl_MemBytes.f k l = some (memB l) := by
 unfold impl_MemBytes.f memB
 rw [memOk_eq l hl k hk, Option.bind_some]
 by_cases hw : wordsB l 24 = true
 ·rw [if_pos hw, if_pos hw, twoBytes_eq l hl k hk]; rfl
 ·rw [if_neg hw, if_neg hw]
theorem insOkB_bounds {o r a b n : Int} (h : insOkB o r a b n = true) : 1 ≤ o ∧ o ≤ 10 ∧ 0 ≤ r ∧ r ≤ 3 ∧ 0 ≤ a ∧ a ≤ 3 ∧ 0 ≤ b ∧ b ≤ 3 ∧ 0 ≤ n ∧ n ≤ 63 := by
 unfold insOkB at h
 simp only [Bool.and_eq_true, decide_eq_true_eq] at h
 obtain ⟨h0, ⟨h1, h1'⟩, ⟨h2, h2'⟩, ⟨h3, h3'⟩, ⟨h4, h4'⟩⟩ := h
 refine ⟨?_, ?_, h1, h1', h2, h2', h3, h3', h4, h4'⟩
 ·by_cases c : 1 ≤ o
  ·exact c
  ·exfalso
   rw [if_neg (by omega), if_neg (by omega), if_neg (by omega), if_neg (by omega), if_neg (by omega), if_neg (by omega), if_neg (by omega), if_neg (by omega), if_neg (by omega), if_neg (by omega)] at h0
   cases h0
 ·by_cases c : o ≤ 10
  ·exact c
  ·exfalso
   rw [if_neg (by omega), if_neg (by omega), if_neg (by omega), if_neg (by omega), if_neg (by omega), if_neg (by omega), if_neg (by omega), if_neg (by omega), if_neg (by omega), if_neg (by omega)] at h0
   cases h0
theorem ite_some (b c : Bool) : (if b = true then some c else some false) = some (b && c) := by cases b <;> rfl
theorem l8Field_eq (x m : Int) (h : Bool) : spec_l8Field.f x m h = some (decide (0 ≤ x ∧ x ≤ m) && (h || decide (x = 0))) := by
 unfold spec_l8Field.f
 rw [l1In_eq, Option.bind_some]
 have e : (x == 0) = decide (x = 0) := rfl
 rw [e]
 cases h <;> simp only [if_true, Bool.false_eq_true, if_false, Bool.true_or, Bool.false_or, ite_some]
theorem specInsOk_eq (o r a b n : Int) : spec_InsOk.f o r a b n = some (insOkB o r a b n) := by
 unfold spec_InsOk.f spec_l8Has.f
 simp only [l1In_eq, l8Field_eq, Option.bind_some, ite_some]
 by_cases ho : 1 ≤ o ∧ o ≤ 10
 ·have hc : o = 1 ∨ o = 2 ∨ o = 3 ∨ o = 4 ∨ o = 5 ∨ o = 6 ∨ o = 7 ∨ o = 8 ∨ o = 9 ∨ o = 10 := by omega
  rw [decide_eq_true ho]
  rcases hc with rfl | rfl | rfl | rfl | rfl | rfl | rfl | rfl | rfl | rfl <;>
   (simp only [if_true, Option.bind_some, List.length_cons, List.length_nil]
    rw [if_pos (by omega), if_pos (by omega)]
    simp only [rd, Option.bind_some, Bool.true_and]
    congr 1
    rw [Bool.eq_iff_iff]
    simp [insOkB, show Go.bits .and .i64 0 1 = 0 by decide, show Go.bits .and .i64 0 2 = 0 by decide, show Go.bits .and .i64 0 4 = 0 by decide, show Go.bits .and .i64 0 8 = 0 by decide,
     show Go.bits .and .i64 7 1 = 1 by decide, show Go.bits .and .i64 7 2 = 2 by decide, show Go.bits .and .i64 7 4 = 4 by decide, show Go.bits .and .i64 7 8 = 0 by decide,
     show Go.bits .and .i64 8 1 = 0 by decide, show Go.bits .and .i64 8 2 = 0 by decide, show Go.bits .and .i64 8 4 = 0 by decide, show Go.bits .and .i64 8 8 = 8 by decide,
     show Go.bits .and .i64 9 1 = 1 by decide, show Go.bits .and .i64 9 2 = 0 by decide, show Go.bits .and .i64 9 4 = 0 by decide, show Go.bits .and .i64 9 8 = 8 by decide,
     show Go.bits .and .i64 10 1 = 0 by decide, show Go.bits .and .i64 10 2 = 2 by decide, show Go.bits .and .i64 10 4 = 0 by decide, show Go.bits .and .i64 10 8 = 8 by decide,
     show Go.bits .and .i64 11 1 = 1 by decide, show Go.bits .and .i64 11 2 = 2 by decide, show Go.bits .and .i64 11 4 = 0 by decide, show Go.bits .and .i64 11 8 = 8 by decide,
     show Go.bits .and .i64 14 1 = 0 by decide, show Go.bits .and .i64 14 2 = 2 by decide, show Go.bits .and .i64 14 4 = 4 by decide, show Go.bits .and .i64 14 8 = 8 by decide,
     show Go.bits .and .i64 15 1 = 1 by decide, show Go.bits .and .i64 15 2 = 2 by decide, show Go.bits .and .i64 15 4 = 4 by decide, show Go.bits .and .i64 15 8 = 8 by decide]
    try omega)
 ·have hn : ∀ c, 1 ≤ c → c ≤ 10 → o ≠ c := fun c h1 h2 e => ho (by omega)
  simp [ho, insOkB, hn]
theorem implHartOk_eq (regs : List Int) (pc st : Int) (hl : regs.length ≤ 2097152) (k : Nat) (hk : regs.length < k) : impl_HartOk.f k regs pc st = some (hartB regs pc st) := by
 unfold impl_HartOk.f hartB
 simp only [wordsOk_eq regs 4 hl k hk, isCell_eq, from_eq, Option.bind_some, ite_some']
theorem specHartOk_eq (regs : List Int) (pc st : Int) (hl : regs.length ≤ 2097152) (k : Nat) (hk : regs.length < k) : spec_HartOk.f k regs pc st = some (hartB regs pc st) := by
 unfold spec_HartOk.f hartB
 simp only [l1Words_eq regs 4 hl k hk, l1In_eq, Option.bind_some, ite_some']
def hartBytesV (r : List Int) (p s : Int) : List Int := if hartB r p s = true then twoB r ++ [p % 256, s % 256] else []
theorem implHartBytes_eq (r : List Int) (p s : Int) (hl : r.length ≤ 1048576) (k : Nat) (hk : 1048600 < k) : impl_HartBytes.f k r p s = some (hartBytesV r p s) := by
 unfold impl_HartBytes.f hartBytesV
 rw [implHartOk_eq r p s (by omega) k (by omega), Option.bind_some]
 by_cases h : hartB r p s = true
 ·rw [if_pos h, if_pos h, twoBytes_eq r (by omega) k (by omega), Option.bind_some, Option.bind_some, if_pos (by rw [twoB_length, hartB_len h]; show 2 * 4 + 2 < _; omega)]
 ·rw [if_neg h, if_neg h]
theorem and_range (x : Int) (m : Nat) (hm : m < 2 ^ 62) : 0 ≤ Go.bits .and .i64 x (m : Int) ∧ Go.bits .and .i64 x (m : Int) ≤ (m : Int) := by
 have h : (BitVec.ofInt 64 x &&& BitVec.ofInt 64 (m : Int)).toNat ≤ m := by
  rw [BitVec.toNat_and]
  refine Nat.le_trans Nat.and_le_right ?_
  rw [BitVec.ofInt_natCast, BitVec.toNat_ofNat]
  exact Nat.mod_le _ _
 have e : Go.bits .and .i64 x (m : Int) = (((BitVec.ofInt 64 x &&& BitVec.ofInt 64 (m : Int)).toNat : Nat) : Int) := by
  show IntKind.i64.wrap (((BitVec.ofInt 64 x &&& BitVec.ofInt 64 (m : Int)).toNat : Nat) : Int) = _
  exact wraps_i64 _ (by omega) (by omega)
 rw [e]; omega
def curOk (c : List Int) (i : Int) : Prop := c.length ≤ 1048576 ∧ 0 ≤ i ∧ i ≤ (c.length : Int)
theorem l1New_ex (c : List Int) (hc : c.length ≤ 1048576) (k : Nat) (hk : 4010 < k) : ∃ i s, spec_l1New.f k c = some (c, i, s) ∧ curOk c i := by
 unfold spec_l1New.f
 have h : ∀ (k j : Nat) (s : Int), j ≤ 4000 → 4000 < j + k → ∃ i s', spec_l1New.l0 k c s (j : Int) = some (c, i, s') ∧ curOk c i := by
  intro k
  induction k with
  | zero => intro j s h1 h2; omega
  | succ k ih =>
   intro j s h1 h2
   rw [spec_l1New.l0]
   by_cases h : (j : Int) < (c.length : Int)
   ·rw [if_pos h]
    by_cases h' : (j : Int) < 4000
    ·rw [if_pos h', if_pos (by omega), wrap_succ (by omega)]; exact ih _ _ (by omega) (by omega)
    ·rw [if_neg h']; exact ⟨_, _, rfl, hc, by omega, by omega⟩
   ·rw [if_neg h]; exact ⟨_, _, rfl, hc, by omega, by omega⟩
 exact h k 0 _ (by omega) (by omega)
theorem l1Byte_ex (c : List Int) (i s : Int) (h : curOk c i) : ∃ b i' s', spec_l1Byte.f c i s = some (b, i', s') ∧ 0 ≤ b ∧ b ≤ 255 ∧ curOk c i' := by
 unfold spec_l1Byte.f
 obtain ⟨h1, h2, h3⟩ := h
 by_cases hl : i < (c.length : Int)
 ·rw [if_pos hl, if_pos h2]
  have hr := fun x => and_range x 255 (by decide)
  exact ⟨_, _, _, rfl, (hr _).1, (hr _).2, h1, by unfold wrap64; omega, by unfold wrap64; omega⟩
 ·rw [if_neg hl]
  have hr := fun x => and_range x 255 (by decide)
  exact ⟨_, _, _, rfl, (hr _).1, (hr _).2, h1, h2, h3⟩
theorem l1Below_ex (c : List Int) (i s : Int) (h : curOk c i) (n : Int) (hn : 0 < n) (hb : n ≤ 4294967296) : ∃ v i' s', spec_l1Below.f c i s n = some (v, i', s') ∧ 0 ≤ v ∧ v < n ∧ curOk c i' := by
 unfold spec_l1Below.f
 rw [if_neg (by omega)]
 by_cases hs : n ≤ 256
 ·obtain ⟨b, i1, s1, e, h0, h1, hc⟩ := l1Byte_ex c i s h
  rw [if_pos hs, e, Option.bind_some, if_neg (by omega)]
  exact ⟨_, _, _, rfl, Int.tmod_nonneg _ h0, Int.tmod_lt_of_pos _ hn, hc⟩
 ·obtain ⟨b1, i1, s1, e1, p1, q1, c1⟩ := l1Byte_ex c i s h
  obtain ⟨b2, i2, s2, e2, p2, q2, c2⟩ := l1Byte_ex c i1 s1 c1
  obtain ⟨b3, i3, s3, e3, p3, q3, c3⟩ := l1Byte_ex c i2 s2 c2
  obtain ⟨b4, i4, s4, e4, p4, q4, c4⟩ := l1Byte_ex c i3 s3 c3
  rw [if_neg hs]
  simp only [e1, e2, e3, e4, Option.bind_some]
  rw [if_neg (by omega)]
  exact ⟨_, _, _, rfl, Int.tmod_nonneg _ (by unfold wrap64; omega), Int.tmod_lt_of_pos _ hn, c4⟩
theorem l1Once_ex (c : List Int) (i s : Int) (h : curOk c i) (n : Int) (hn : 0 < n) (hb : n ≤ 4294967296) : ∃ v i' s', spec_l1Once.f c i s n = some (v, i', s') ∧ curOk c i' := by
 unfold spec_l1Once.f
 obtain ⟨v, i1, s1, e, _, _, hc⟩ := l1Below_ex c i s h n hn hb
 rw [e, Option.bind_some]
 exact ⟨_, _, _, rfl, hc⟩
theorem l1PickInt_ex (c : List Int) (i s : Int) (h : curOk c i) (l : List Int) (h0 : 0 < l.length) (h1 : l.length ≤ 1000) : ∃ v i' s', spec_l1PickInt.f c i s l = some (v, i', s') ∧ v ∈ l ∧ curOk c i' := by
 unfold spec_l1PickInt.f
 obtain ⟨v, i1, s1, e, p, q, hc⟩ := l1Below_ex c i s h (l.length : Int) (by omega) (by omega)
 rw [e, Option.bind_some, if_pos p, if_pos q]
 refine ⟨_, _, _, rfl, ?_, hc⟩
 obtain ⟨j, rfl⟩ : ∃ j : Nat, v = (j : Int) := ⟨v.toNat, by omega⟩
 exact rd_mem l j (by omega)
theorem l8Has_ex (o : Int) (h0 : 1 ≤ o) (h1 : o ≤ 10) : ∃ v, spec_l8Has.f o = some v := by
 unfold spec_l8Has.f
 rw [l1In_eq, decide_eq_true ⟨h0, h1⟩, Option.bind_some, if_pos rfl, Option.bind_some, if_pos (by omega), if_pos (by simp; omega)]
 exact ⟨_, rfl⟩
theorem drawIns_j1 (x : Int) (c : List Int) (i s : Int) (h : curOk c i) (o r a b n : Int) (k : Nat) : ∃ o' r' a' b' n' i' s', spec_l8DrawIns.j1 (k + 1) x c i s o r a b n = some (o', r', a', b', n', i', s') ∧ curOk c i' := by
 rw [spec_l8DrawIns.j1]
 obtain ⟨v, i1, s1, e1, _, _, c1⟩ := l1Below_ex c i s h 4 (by omega) (by omega)
 obtain ⟨v2, i2, s2, e2, _, c2⟩ := l1PickInt_ex c i s h [0, 1, 2, 4, 8, 9, 12, 20, 23] (by simp) (by simp)
 obtain ⟨v3, i3, s3, e3, _, c3⟩ := l1PickInt_ex c i1 s1 c1 [0, 1, 2, 4, 8, 9, 12, 20, 23] (by simp) (by simp)
 by_cases h1 : Go.bits .and .i64 x 4 = 0
 ·rw [if_pos h1]
  by_cases h2 : Go.bits .and .i64 x 8 = 0
  ·rw [if_pos h2]; exact ⟨_, _, _, _, _, _, _, rfl, h⟩
  ·rw [if_neg h2, e2, Option.bind_some]; exact ⟨_, _, _, _, _, _, _, rfl, c2⟩
 ·rw [if_neg h1, e1, Option.bind_some]
  by_cases h2 : Go.bits .and .i64 x 8 = 0
  ·rw [if_pos h2]; exact ⟨_, _, _, _, _, _, _, rfl, c1⟩
  ·rw [if_neg h2]
   simp only [e3, Option.bind_some]; exact ⟨_, _, _, _, _, _, _, rfl, c3⟩
theorem drawIns_j0 (x : Int) (c : List Int) (i s : Int) (h : curOk c i) (o r a b n : Int) (k : Nat) : ∃ o' r' a' b' n' i' s', spec_l8DrawIns.j0 (k + 2) x c i s o r a b n = some (o', r', a', b', n', i', s') ∧ curOk c i' := by
 rw [spec_l8DrawIns.j0]
 obtain ⟨v, i1, s1, e1, _, _, c1⟩ := l1Below_ex c i s h 4 (by omega) (by omega)
 by_cases h1 : Go.bits .and .i64 x 2 = 0
 ·rw [if_pos h1]; exact drawIns_j1 x c i s h o r a b n k
 ·rw [if_neg h1, e1, Option.bind_some]; exact drawIns_j1 x c i1 s1 c1 o r v b n k
theorem drawIns_ex (c : List Int) (i s : Int) (h : curOk c i) (k : Nat) (hk : 2 ≤ k) : ∃ o r a b n i' s', spec_l8DrawIns.f k c i s = some (o, r, a, b, n, i', s') ∧ curOk c i' := by
 obtain ⟨k, rfl⟩ : ∃ m, k = m + 2 := ⟨k - 2, by omega⟩
 unfold spec_l8DrawIns.f
 obtain ⟨o, i1, s1, e1, ho, c1⟩ := l1PickInt_ex c i s h [1, 1, 2, 3, 3, 4, 4, 5, 5, 5, 6, 6, 7, 8, 9, 10] (by simp) (by simp)
 have ho' : 1 ≤ o ∧ o ≤ 10 := by simp at ho; omega
 obtain ⟨x, ex⟩ := l8Has_ex o ho'.1 ho'.2
 rw [e1, Option.bind_some]
 simp only [ex, Option.bind_some]
 by_cases h1 : Go.bits .and .i64 x 1 = 0
 ·rw [if_pos h1]; exact drawIns_j0 x c i1 s1 c1 o 0 0 0 0 k
 ·obtain ⟨v, i2, s2, e2, _, _, c2⟩ := l1Below_ex c i1 s1 c1 4 (by omega) (by omega)
  rw [if_neg h1, e2, Option.bind_some]; exact drawIns_j0 x c i2 s2 c2 o v 0 0 0 k
theorem implAddress_eq (n : Int) : impl_address.f n = some (n % 24) := by
 unfold impl_address.f
 have b := tmod_bd n 24 (by omega)
 rw [wrap_small (by omega) (by omega), tmod_up n 24 (by omega) (by omega)]
theorem implWrapped_eq (n : Int) : impl_wrapped.f n = some (n % 65536) := by
 unfold impl_wrapped.f
 have b := tmod_bd n 65536 (by omega)
 rw [wrap_small (x := Int.tmod n 65536 + 65535) (by omega) (by omega), wrap_small (by omega) (by omega), show Int.tmod n 65536 + 65535 + 1 = Int.tmod n 65536 + 65536 by omega, tmod_up n 65536 (by omega) (by omega)]
def opV (r : List Int) (pc st : Int) (o i a b n got : Int) : List Int × Int × Int × Int :=
 if o = 1 then (r.set i.toNat n, (pc + 1) % 24, st, -1)
 else if o = 2 then (r.set i.toNat ((rd r a + rd r b) % 65536), (pc + 1) % 24, st, -1)
 else if o = 10 then (r.set i.toNat ((rd r a - rd r b) % 65536), (pc + 1) % 24, st, -1)
 else if o = 3 then (r.set i.toNat ((rd r a + n) % 65536), (pc + 1) % 24, st, -1)
 else if o = 4 then (r.set i.toNat got, (pc + 1) % 24, st, -1)
 else if o = 5 then (r, (pc + 1) % 24, st, rd r b)
 else if o = 6 then (r.set i.toNat got, (pc + 1) % 24, st, (got + rd r b) % 65536)
 else if o = 7 then (if rd r a = 0 then (r, n % 24, st, -1) else (r, (pc + 1) % 24, st, -1))
 else if o = 8 then (r, n % 24, st, -1)
 else if o = 9 then (r, pc, 1, -1)
 else (r, (pc + 1) % 24, st, -1)
def workV (r : List Int) (pc st : Int) (o i a b n got : Int) : List Int × Int × Int × Int :=
 if hartB r pc st = true ∧ st = 0 ∧ (0 ≤ got ∧ got ≤ 65535) then (if insOkB o i a b n = true then opV r pc st o i a b n got else (r, pc, 2, -1)) else (r, pc, st, -1)
theorem hartB_parts {r : List Int} {p s : Int} (h : hartB r p s = true) : r.length = 4 ∧ (∀ x, x ∈ r → 0 ≤ x ∧ x ≤ 65535) ∧ (0 ≤ p ∧ p ≤ 23) ∧ (0 ≤ s ∧ s ≤ 2) := by
 have l := hartB_len h
 unfold hartB at h; rw [Bool.and_eq_true, Bool.and_eq_true] at h
 exact ⟨l, fun x hx => wordsB_mem h.1 x hx, of_decide_eq_true h.2.1, of_decide_eq_true h.2.2⟩
theorem rd_word {r : List Int} (hw : ∀ x, x ∈ r → 0 ≤ x ∧ x ≤ 65535) (i : Int) : 0 ≤ rd r i ∧ rd r i ≤ 65535 := by
 unfold rd
 rw [List.getD_eq_getElem?_getD]
 cases h : r[i.toNat]? with
 | none => simp
 | some x => exact hw x (List.mem_of_getElem? h)
theorem implWork_j2 (k : Nat) (r : List Int) (pc st o i a b n got : Int) (hr : r.length = 4) (hw : ∀ x, x ∈ r → 0 ≤ x ∧ x ≤ 65535) (hg : 0 ≤ got ∧ got ≤ 65535) (hi : 0 ≤ i ∧ i ≤ 3) (hn : 0 ≤ n ∧ n ≤ 63) :
  impl_Work.j2 (k + 2) got (rd r a) (rd r b) (-1) ((pc + 1) % 24) o r pc st o i a b n = some (opV r pc st o i a b n got) := by
 have wa := rd_word hw a
 have wb := rd_word hw b
 rw [impl_Work.j2]
 unfold opV
 rw [wrap_small (x := rd r a + rd r b) (by omega) (by omega), wrap_small (x := rd r a - rd r b) (by omega) (by omega), wrap_small (x := rd r a + n) (by omega) (by omega), wrap_small (x := got + rd r b) (by omega) (by omega)]
 simp only [implWrapped_eq, implAddress_eq, Option.bind_some]
 have h1 : i < (r.length : Int) := by omega
 simp only [if_pos hi.1, if_pos h1]
 by_cases c1 : o = 1
 ·rw [if_pos c1, if_pos c1]
  all_goals (try rw [impl_Work.j3])
 rw [if_neg c1, if_neg c1]
 by_cases c2 : o = 2
 ·rw [if_pos c2, if_pos c2]
  all_goals (try rw [impl_Work.j3])
 rw [if_neg c2, if_neg c2]
 by_cases c3 : o = 10
 ·rw [if_pos c3, if_pos c3]
  all_goals (try rw [impl_Work.j3])
 rw [if_neg c3, if_neg c3]
 by_cases c4 : o = 3
 ·rw [if_pos c4, if_pos c4]
  all_goals (try rw [impl_Work.j3])
 rw [if_neg c4, if_neg c4]
 by_cases c5 : o = 4
 ·rw [if_pos c5, if_pos c5]
  all_goals (try rw [impl_Work.j3])
 rw [if_neg c5, if_neg c5]
 by_cases c6 : o = 5
 ·rw [if_pos c6, if_pos c6]
  all_goals (try rw [impl_Work.j3])
 rw [if_neg c6, if_neg c6]
 by_cases c7 : o = 6
 ·rw [if_pos c7, if_pos c7]
  all_goals (try rw [impl_Work.j3])
 rw [if_neg c7, if_neg c7]
 by_cases c8 : o = 7
 ·rw [if_pos c8, if_pos c8]
  by_cases c : rd r a = 0
  ·rw [if_pos c, if_pos c]
   all_goals (try rw [impl_Work.j3])
  ·rw [if_neg c, if_neg c]
   all_goals (try rw [impl_Work.j3])
 rw [if_neg c8, if_neg c8]
 by_cases c9 : o = 8
 ·rw [if_pos c9, if_pos c9]
  all_goals (try rw [impl_Work.j3])
 rw [if_neg c9, if_neg c9]
 by_cases c10 : o = 9
 ·rw [if_pos c10, if_pos c10]
  all_goals (try rw [impl_Work.j3])
 rw [if_neg c10, if_neg c10]
 all_goals (try rw [impl_Work.j3])
theorem implWork_eq (r : List Int) (pc st o i a b n got : Int) (hl : r.length ≤ 2097152) (k : Nat) (hk : r.length + 10 < k) : impl_Work.f k r pc st o i a b n got = some (workV r pc st o i a b n got) := by
 obtain ⟨k, rfl⟩ : ∃ m, k = m + 4 := ⟨k - 4, by omega⟩
 unfold impl_Work.f impl_copyHart.f slices_Clone_int_int.f workV
 rw [if_pos (by omega), Option.bind_some, Option.bind_some]
 simp only [implHartOk_eq r pc st (by omega) (k + 4) (by omega), Option.bind_some]
 have jt : impl_Work.j0 (k + 4) got true r pc st o i a b n = some (r, pc, st, -1) := by rw [impl_Work.j0, if_pos rfl]
 by_cases h : hartB r pc st = true
 ·obtain ⟨p1, p2, p3, p4⟩ := hartB_parts h
  rw [if_pos h]
  by_cases hs : st = 0
  ·rw [if_pos hs, isWord_eq, Option.bind_some]
   by_cases hg : 0 ≤ got ∧ got ≤ 65535
   ·rw [if_pos ⟨h, hs, hg⟩, decide_eq_true hg, Bool.not_true, impl_Work.j0, if_neg (by simp)]
    unfold impl_InsOk.f
    rw [Option.bind_some]
    by_cases hi : insOkB o i a b n = true
    ·obtain ⟨b0, b0', b1, b1', b2, b2', b3, b3', b4, b4'⟩ := insOkB_bounds hi
     rw [if_pos hi, hi, Bool.not_true, impl_Work.j1, if_neg (by simp), if_pos b2, if_pos (by omega), if_pos b3, if_pos (by omega), implAddress_eq, Option.bind_some, wrap_small (x := pc + 1) (by omega) (by omega)]
     exact implWork_j2 k r pc st o i a b n got p1 p2 hg ⟨b1, b1'⟩ ⟨b4, b4'⟩
    ·have hi' : insOkB o i a b n = false := by simpa using hi
     rw [if_neg hi, hi', Bool.not_false, impl_Work.j1, if_pos rfl]
   ·rw [if_neg (fun c => hg c.2.2), decide_eq_false hg, Bool.not_false, jt]
  ·rw [if_neg hs, jt, if_neg (fun c => hs c.2.1)]
 ·rw [if_neg h, jt, if_neg (fun c => h c.1)]
def decodeB (w : Int) : Bool := decide (0 ≤ w ∧ w ≤ 65535) && insOkB (w % 16) (w / 16 % 4) (w / 64 % 4) (w / 256 % 4) (w / 1024)
def decodeV (w : Int) : Int × Int × Int × Int × Int × Bool := if decodeB w = true then (w % 16, w / 16 % 4, w / 64 % 4, w / 256 % 4, w / 1024, true) else (0, 0, 0, 0, 0, false)
theorem implDecode_eq (w : Int) : impl_Decode.f w = some (decodeV w) := by
 unfold impl_Decode.f decodeV decodeB impl_InsOk.f
 rw [isWord_eq, Option.bind_some]
 by_cases h : 0 ≤ w ∧ w ≤ 65535
 ·rw [decide_eq_true h, if_pos rfl, Bool.true_and]
  have e1 : Int.tmod w 16 = w % 16 := tmod_pos _ _ h.1
  have e2 : Int.tmod (wrap64 (Int.tdiv w 16)) 4 = w / 16 % 4 := by rw [tdiv_pos _ _ h.1, wrap_small (by omega) (by omega), tmod_pos _ _ (by omega)]
  have e3 : Int.tmod (wrap64 (Int.tdiv w 64)) 4 = w / 64 % 4 := by rw [tdiv_pos _ _ h.1, wrap_small (by omega) (by omega), tmod_pos _ _ (by omega)]
  have e4 : Int.tmod (wrap64 (Int.tdiv w 256)) 4 = w / 256 % 4 := by rw [tdiv_pos _ _ h.1, wrap_small (by omega) (by omega), tmod_pos _ _ (by omega)]
  have e5 : wrap64 (Int.tdiv w 1024) = w / 1024 := by rw [tdiv_pos _ _ h.1, wrap_small (by omega) (by omega)]
  rw [e1, e2, e3, e4, e5, Option.bind_some]
  by_cases c : insOkB (w % 16) (w / 16 % 4) (w / 64 % 4) (w / 256 % 4) (w / 1024) = true
  ·rw [if_pos c, if_pos c]
  ·rw [if_neg c, if_neg c]
 ·rw [decide_eq_false h, if_neg (by simp), Bool.false_and, if_neg (by simp)]
def targetV (o i a b n : Int) (r : List Int) : Int := if insOkB o i a b n = true ∧ (o = 4 ∨ o = 5 ∨ o = 6) ∧ r.length = 4 then wrap64 (rd r a + n) % 24 else -1
theorem implTarget_eq (o i a b n : Int) (r : List Int) : impl_Target.f o i a b n r = some (targetV o i a b n r) := by
 unfold impl_Target.f targetV impl_InsOk.f impl_aims.f
 rw [Option.bind_some]
 by_cases h : insOkB o i a b n = true
 ·have hb := insOkB_bounds h
  rw [if_pos h]
  have ha : (if o = 4 then some true else if o = 5 then some true else some (o == 6)) = some (decide (o = 4 ∨ o = 5 ∨ o = 6)) := by
   by_cases c4 : o = 4
   ·rw [if_pos c4, decide_eq_true (.inl c4)]
   ·rw [if_neg c4]
    by_cases c5 : o = 5
    ·rw [if_pos c5, decide_eq_true (.inr (.inl c5))]
    ·rw [if_neg c5]; congr 1; rw [Bool.eq_iff_iff]; simp [c4, c5]
  rw [ha, Option.bind_some]
  by_cases c : o = 4 ∨ o = 5 ∨ o = 6
  ·rw [decide_eq_true c, if_pos rfl]
   by_cases hl : r.length = 4
   ·rw [if_pos (by omega), if_pos (by omega), if_pos (by omega), implAddress_eq, Option.bind_some, if_pos ⟨h, c, hl⟩]
   ·rw [if_neg (by omega), if_neg (fun x => hl x.2.2)]
  ·rw [decide_eq_false c, if_neg (by simp), if_neg (fun x => c x.2.1)]
 ·rw [if_neg h, if_neg (fun x => h x.1)]
abbrev Hh := S29
def hB (h : Hh) : Bool := hartB h.f0 h.f1 h.f2
def gotV (m : List Int) (h : Hh) : Int := if 0 ≤ targetV (decodeV (rd m h.f1)).1 (decodeV (rd m h.f1)).2.1 (decodeV (rd m h.f1)).2.2.1 (decodeV (rd m h.f1)).2.2.2.1 (decodeV (rd m h.f1)).2.2.2.2.1 h.f0 then rd m (targetV (decodeV (rd m h.f1)).1 (decodeV (rd m h.f1)).2.1 (decodeV (rd m h.f1)).2.2.1 (decodeV (rd m h.f1)).2.2.2.1 (decodeV (rd m h.f1)).2.2.2.2.1 h.f0) else 0
def tgtV (m : List Int) (h : Hh) : Int := targetV (decodeV (rd m h.f1)).1 (decodeV (rd m h.f1)).2.1 (decodeV (rd m h.f1)).2.2.1 (decodeV (rd m h.f1)).2.2.2.1 (decodeV (rd m h.f1)).2.2.2.2.1 h.f0
def wkV (m : List Int) (h : Hh) : List Int × Int × Int × Int := workV h.f0 h.f1 h.f2 (decodeV (rd m h.f1)).1 (decodeV (rd m h.f1)).2.1 (decodeV (rd m h.f1)).2.2.1 (decodeV (rd m h.f1)).2.2.2.1 (decodeV (rd m h.f1)).2.2.2.2.1 (gotV m h)
def stepV (m : List Int) (h : Hh) : List Int × Hh := (if 0 ≤ (wkV m h).2.2.2 then m.set (tgtV m h).toNat (wkV m h).2.2.2 else m, ⟨(wkV m h).1, (wkV m h).2.1, (wkV m h).2.2.1⟩)
theorem tgt_range (o i a b n : Int) (r : List Int) : targetV o i a b n r = -1 ∨ 0 ≤ targetV o i a b n r ∧ targetV o i a b n r ≤ 23 := by
 unfold targetV
 by_cases h : insOkB o i a b n = true ∧ (o = 4 ∨ o = 5 ∨ o = 6) ∧ r.length = 4
 ·rw [if_pos h]; right; omega
 ·rw [if_neg h]; left; rfl
theorem put_tgt {r : List Int} {pc st o i a b n got : Int} (h : 0 ≤ (workV r pc st o i a b n got).2.2.2) : 0 ≤ targetV o i a b n r := by
 unfold workV at h
 by_cases c : hartB r pc st = true ∧ st = 0 ∧ (0 ≤ got ∧ got ≤ 65535)
 ·rw [if_pos c] at h
  by_cases hi : insOkB o i a b n = true
  ·rw [if_pos hi] at h
   have hl := hartB_len c.1
   unfold targetV
   by_cases c5 : o = 5
   ·rw [if_pos ⟨hi, .inr (.inl c5), hl⟩]; omega
   ·by_cases c6 : o = 6
    ·rw [if_pos ⟨hi, .inr (.inr c6), hl⟩]; omega
    ·exfalso
     unfold opV at h
     rw [if_neg c5, if_neg c6] at h
     revert h
     split
     ·simp
     split
     ·simp
     split
     ·simp
     split
     ·simp
     split
     ·simp
     split
     ·split <;> simp
     split
     ·simp
     split <;> simp
  ·rw [if_neg hi] at h; simp at h
 ·rw [if_neg c] at h; simp at h
theorem implStep_eq (m : List Int) (h : Hh) (hm : m.length = 24) (hh : hB h = true) (k : Nat) (hk : 20 < k) : impl_step.f k m h.f0 h.f1 h.f2 = some ((stepV m h).2.f0, (stepV m h).2.f1, (stepV m h).2.f2, (stepV m h).1) := by
 obtain ⟨p1, p2, p3, p4⟩ := hartB_parts hh
 unfold impl_step.f stepV
 rw [if_pos p3.1, if_pos (by omega), implDecode_eq, Option.bind_some]
 simp only [implTarget_eq, Option.bind_some]
 rcases tgt_range (decodeV (rd m h.f1)).1 (decodeV (rd m h.f1)).2.1 (decodeV (rd m h.f1)).2.2.1 (decodeV (rd m h.f1)).2.2.2.1 (decodeV (rd m h.f1)).2.2.2.2.1 h.f0 with t | t
 ·rw [if_neg (by omega), implWork_eq _ _ _ _ _ _ _ _ _ (by omega) k (by omega), Option.bind_some]
  have e : gotV m h = 0 := by unfold gotV; rw [if_neg (by omega)]
  unfold wkV; rw [e]
  by_cases c : 0 ≤ (workV h.f0 h.f1 h.f2 (decodeV (rd m h.f1)).1 (decodeV (rd m h.f1)).2.1 (decodeV (rd m h.f1)).2.2.1 (decodeV (rd m h.f1)).2.2.2.1 (decodeV (rd m h.f1)).2.2.2.2.1 0).2.2.2
  ·have := put_tgt c; omega
  ·rw [if_neg c, if_neg c]
 ·have e : gotV m h = rd m (tgtV m h) := by unfold gotV tgtV; rw [if_pos t.1]
  rw [if_pos t.1, if_pos t.1, if_pos (by omega), implWork_eq _ _ _ _ _ _ _ _ _ (by omega) k (by omega), Option.bind_some]
  unfold wkV; rw [e]; unfold tgtV
  by_cases c : 0 ≤ (workV h.f0 h.f1 h.f2 (decodeV (rd m h.f1)).1 (decodeV (rd m h.f1)).2.1 (decodeV (rd m h.f1)).2.2.1 (decodeV (rd m h.f1)).2.2.2.1 (decodeV (rd m h.f1)).2.2.2.2.1 (rd m (targetV (decodeV (rd m h.f1)).1 (decodeV (rd m h.f1)).2.1 (decodeV (rd m h.f1)).2.2.1 (decodeV (rd m h.f1)).2.2.2.1 (decodeV (rd m h.f1)).2.2.2.2.1 h.f0))).2.2.2
  ·rw [if_pos c, if_pos c]
  ·rw [if_neg c, if_neg c]
theorem rdH (l : List Hh) (i : Nat) (h : i < l.length) : rd_T29 l (i : Int) = l[i] := by
 unfold rd_T29; simp [List.getD, h]
def shortH (l : List Hh) : Prop := ∀ h, h ∈ l → h.f0.length ≤ 2097152
theorem copyHarts_eq (l : List Hh) (hl : l.length ≤ 2097152) (hb : shortH l) (k : Nat) (hk : l.length < k) : impl_copyHarts.f k l = some l := by
 unfold impl_copyHarts.f
 have h := for_st l.length (fun k i (s : List Hh) => impl_copyHarts.l0 k s l (l.length : Int) (i : Int)) (fun i => l.take i) l ?_ ?_ k 0 (Nat.zero_le _) (by omega)
 ·simpa using h
 ·intro k i hi
  simp only [impl_copyHarts.l0]
  have hx := hb _ (List.getElem_mem hi)
  rw [if_pos (by omega), if_pos (by omega), if_pos (by omega), rdH l i hi]
  unfold impl_copyHart.f slices_Clone_int_int.f
  rw [if_pos (by omega), Option.bind_some, Option.bind_some, if_pos (by simp; omega), wrap_succ (by omega), ← snoc_step l i hi]
 ·intro k
  simp only [impl_copyHarts.l0]
  rw [if_neg (by omega), List.take_of_length_le (Nat.le_refl _)]
def goB (h : Hh) : Bool := hB h && (h.f2 == 0)
theorem implGoes_eq (h : Hh) (hl : h.f0.length ≤ 2097152) (k : Nat) (hk : h.f0.length < k) : impl_goes.f k h.f0 h.f1 h.f2 = some (goB h) := by
 unfold impl_goes.f goB hB
 rw [implHartOk_eq _ _ _ hl k hk, Option.bind_some]
 cases hartB h.f0 h.f1 h.f2 <;> rfl
def mayGo (hs : List Hh) (i : Int) : Prop := 0 ≤ i ∧ i < (hs.length : Int) ∧ goB (rd_T29 hs i) = true
instance (hs : List Hh) (i : Int) : Decidable (mayGo hs i) := by unfold mayGo; infer_instance
def nextV (s : List Int × List Hh) (i : Int) : List Int × List Hh := if mayGo s.2 i then ((stepV s.1 (rd_T29 s.2 i)).1, s.2.set i.toNat (stepV s.1 (rd_T29 s.2 i)).2) else s
def runV (m : List Int) (hs : List Hh) (order : List Int) : List Int × List Hh := order.foldl nextV (m, hs)
theorem stepV_len (m : List Int) (h : Hh) : (stepV m h).1.length = m.length := by
 unfold stepV; dsimp only; split
 ·rw [List.length_set]
 ·rfl
theorem nextV_len (s : List Int × List Hh) (i : Int) : (nextV s i).1.length = s.1.length ∧ (nextV s i).2.length = s.2.length := by
 unfold nextV; split
 ·exact ⟨stepV_len _ _, by rw [List.length_set]⟩
 ·exact ⟨rfl, rfl⟩
theorem stepV_short (m : List Int) (h : Hh) (hl : h.f0.length ≤ 2097152) : (stepV m h).2.f0.length ≤ 2097152 := by
 unfold stepV wkV; dsimp only
 unfold workV; split
 ·split
  ·unfold opV
   split
   ·rw [List.length_set]; exact hl
   split
   ·rw [List.length_set]; exact hl
   split
   ·rw [List.length_set]; exact hl
   split
   ·rw [List.length_set]; exact hl
   split
   ·rw [List.length_set]; exact hl
   split
   ·exact hl
   split
   ·rw [List.length_set]; exact hl
   split
   ·split <;> exact hl
   split
   ·exact hl
   split <;> exact hl
  ·exact hl
 ·exact hl
theorem rdH_mem (l : List Hh) (i : Int) (h0 : 0 ≤ i) (h1 : i < (l.length : Int)) : rd_T29 l i ∈ l := by
 obtain ⟨j, rfl⟩ : ∃ j : Nat, i = (j : Int) := ⟨i.toNat, by omega⟩
 rw [rdH l j (by omega)]; exact List.getElem_mem _
theorem nextV_short (s : List Int × List Hh) (i : Int) (h : shortH s.2) : shortH (nextV s i).2 := by
 unfold nextV; split
 ·rename_i c
  intro x hx
  rcases List.mem_or_eq_of_mem_set hx with hx | rfl
  ·exact h x hx
  ·exact stepV_short _ _ (h _ (rdH_mem _ _ c.1 c.2.1))
 ·exact h
theorem runV_snoc (m : List Int) (hs : List Hh) (o : List Int) (i : Int) : runV m hs (o ++ [i]) = nextV (runV m hs o) i := by unfold runV; rw [List.foldl_append]; rfl
theorem runV_len (m : List Int) (hs : List Hh) (o : List Int) : (runV m hs o).1.length = m.length ∧ (runV m hs o).2.length = hs.length := by
 have g : ∀ (o : List Int) s, ((o.foldl nextV s).1).length = s.1.length ∧ ((o.foldl nextV s).2).length = s.2.length := by
  intro o
  induction o with
  | nil => exact fun s => ⟨rfl, rfl⟩
  | cons i o ih => intro s; have h := ih (nextV s i); have h2 := nextV_len s i; exact ⟨h.1.trans h2.1, h.2.trans h2.2⟩
 exact g o (m, hs)
theorem runV_short (m : List Int) (hs : List Hh) (o : List Int) (h : shortH hs) : shortH (runV m hs o).2 := by
 have g : ∀ (o : List Int) s, shortH s.2 → shortH (o.foldl nextV s).2 := by
  intro o
  induction o with
  | nil => exact fun s h => h
  | cons i o ih => intro s h; exact ih _ (nextV_short s i h)
 exact g o (m, hs) h
theorem flat_loop (o : List Int) (ho : o.length ≤ 2000) (m : List Int) (hs : List Hh) (hm : m.length = 24) (hn : hs.length ≤ 2097152) (hb : shortH hs) (k : Nat) (hk : 3000000 < k) : impl_FlatRun.l0 k m hs o (o.length : Int) 0 = some (runV m hs o) := by
 obtain ⟨C, hC⟩ : ∃ C : Nat, C = 2200000 := ⟨_, rfl⟩
 have h := for_st o.length (fun k' i (s : List Int × List Hh) => impl_FlatRun.l0 (k' + C) s.1 s.2 o (o.length : Int) (i : Int)) (fun i => runV m hs (o.take i)) (runV m hs o) ?_ ?_ (k - C) 0 (Nat.zero_le _) (by omega)
 ·rw [show k - C + C = k by omega] at h; simp only [List.take_zero] at h; exact h
 ·intro k' i hi
  rw [show k' + 1 + C = (k' + C) + 1 by omega]
  generalize hs0 : runV m hs (o.take i) = s
  have e : runV m hs (o.take (i + 1)) = nextV s o[i] := by rw [← snoc_step o i hi, runV_snoc, hs0]
  have hl := runV_len m hs (o.take i)
  have hsh := runV_short m hs (o.take i) hb
  rw [hs0] at hl hsh
  rw [e]
  simp only [impl_FlatRun.l0]
  rw [if_pos (by omega), if_pos (by omega), if_pos (by omega), rd_nat o i hi, from_eq, Option.bind_some, wrap_succ (by omega), wrap_small (by omega) (by omega)]
  unfold nextV
  by_cases c : 0 ≤ o[i] ∧ o[i] ≤ (s.2.length : Int) - 1
  ·rw [if_pos (decide_eq_true c), if_pos c.1, if_pos (by omega), implGoes_eq _ (hsh _ (rdH_mem _ _ c.1 (by omega))) _ (by have := hsh _ (rdH_mem _ _ c.1 (by omega : o[i] < (s.2.length : Int))); omega), Option.bind_some]
   by_cases g : goB (rd_T29 s.2 o[i]) = true
   ·have g2 : hB (rd_T29 s.2 o[i]) = true := by unfold goB at g; rw [Bool.and_eq_true] at g; exact g.1
    rw [if_pos g, implStep_eq _ _ (by omega) g2 _ (by omega), Option.bind_some, if_pos ⟨c.1, by omega, g⟩]
   ·rw [if_neg g, if_neg (fun x => g x.2.2)]
  ·rw [if_neg (by simpa using c), if_neg (fun x => c ⟨x.1, by have := x.2.1; omega⟩)]
 ·intro k'
  rw [show k' + 1 + C = (k' + C) + 1 by omega]
  simp only [impl_FlatRun.l0]
  rw [if_neg (by omega), List.take_of_length_le (Nat.le_refl _)]
theorem implFlatRun_eq (m : List Int) (hs : List Hh) (o : List Int) (hm : m.length ≤ 2097152) (hn : hs.length ≤ 2097152) (hb : shortH hs) (k : Nat) (hk : 3000002 < k) :
  impl_FlatRun.f k m hs o = some (if o.length ≤ 2000 ∧ wordsB m 24 = true then runV m hs o else (m, hs)) := by
 obtain ⟨k, rfl⟩ : ∃ j, k = j + 1 := ⟨k - 1, by omega⟩
 unfold impl_FlatRun.f slices_Clone_int_int.f
 rw [if_pos (by omega), Option.bind_some, copyHarts_eq hs hn hb _ (by omega), Option.bind_some]
 have jt : impl_FlatRun.j0 (k + 1) m hs o true = some (m, hs) := by rw [impl_FlatRun.j0, if_pos rfl]
 by_cases ho : (o.length : Int) > 2000
 ·rw [if_pos ho, jt, if_neg (fun c => by omega)]
 ·rw [if_neg ho, memOk_eq m hm _ (by omega), Option.bind_some]
  by_cases w : wordsB m 24 = true
  ·rw [w, Bool.not_true, impl_FlatRun.j0, if_neg (by simp), flat_loop o (by omega) m hs (wordsB_24 w) hn hb k (by omega), if_pos ⟨by omega, rfl⟩]
  ·have w' : wordsB m 24 = false := by simpa using w
   rw [w', Bool.not_false, jt, if_neg (fun c => by simpa using c.2)]
def flatV (m : List Int) (h : Hh) : List Int × Hh := if wordsB m 24 = true ∧ goB h = true then stepV m h else (m, h)
theorem hartB_mk {r : List Int} {p s : Int} (h1 : r.length = 4) (h2 : ∀ x ∈ r, 0 ≤ x ∧ x ≤ 65535) (h3 : 0 ≤ p ∧ p ≤ 23) (h4 : 0 ≤ s ∧ s ≤ 2) : hartB r p s = true := by
 unfold hartB wordsB
 rw [decide_eq_true h3, decide_eq_true h4, decide_eq_true (by omega), List.all_eq_true.2 fun x hx => decide_eq_true (h2 x hx)]; rfl
theorem set_word {r : List Int} {i : Nat} {v : Int} (h2 : ∀ x ∈ r, 0 ≤ x ∧ x ≤ 65535) (hv : 0 ≤ v ∧ v ≤ 65535) : ∀ x ∈ r.set i v, 0 ≤ x ∧ x ≤ 65535 := fun x hx => by
 rcases List.mem_or_eq_of_mem_set hx with hx | rfl
 ·exact h2 x hx
 ·exact hv
theorem workV_ok (r : List Int) (pc st o i a b n got : Int) (h : hartB r pc st = true) : hartB (workV r pc st o i a b n got).1 (workV r pc st o i a b n got).2.1 (workV r pc st o i a b n got).2.2.1 = true ∧ (workV r pc st o i a b n got).2.2.2 ≤ 65535 := by
 obtain ⟨p1, p2, p3, p4⟩ := hartB_parts h
 have wa := rd_word p2 a
 have wb := rd_word p2 b
 unfold workV
 by_cases c : hartB r pc st = true ∧ st = 0 ∧ (0 ≤ got ∧ got ≤ 65535)
 ·rw [if_pos c]
  by_cases hi : insOkB o i a b n = true
  ·have q := insOkB_bounds hi
   have hst := c.2.1
   have hg := c.2.2
   have s1 : ∀ v : Int, 0 ≤ v ∧ v ≤ 65535 → hartB (r.set i.toNat v) ((pc + 1) % 24) st = true := fun v hv => hartB_mk (by rw [List.length_set]; exact p1) (set_word p2 hv) (by omega) p4
   rw [if_pos hi]
   unfold opV
   split
   ·exact ⟨s1 _ (by omega), by dsimp only; omega⟩
   split
   ·exact ⟨s1 _ (by omega), by dsimp only; omega⟩
   split
   ·exact ⟨s1 _ (by omega), by dsimp only; omega⟩
   split
   ·exact ⟨s1 _ (by omega), by dsimp only; omega⟩
   split
   ·exact ⟨s1 _ hg, by dsimp only; omega⟩
   split
   ·exact ⟨hartB_mk p1 p2 (by dsimp only; omega) p4, wb.2⟩
   split
   ·exact ⟨s1 _ hg, by dsimp only; omega⟩
   split
   ·split
    ·exact ⟨hartB_mk p1 p2 (by dsimp only; omega) p4, by dsimp only; omega⟩
    ·exact ⟨hartB_mk p1 p2 (by dsimp only; omega) p4, by dsimp only; omega⟩
   split
   ·exact ⟨hartB_mk p1 p2 (by dsimp only; omega) p4, by dsimp only; omega⟩
   split
   ·exact ⟨hartB_mk p1 p2 p3 (by dsimp only; omega), by dsimp only; omega⟩
   ·exact ⟨hartB_mk p1 p2 (by dsimp only; omega) p4, by dsimp only; omega⟩
  ·rw [if_neg hi]; exact ⟨hartB_mk p1 p2 p3 (by dsimp only; omega), by dsimp only; omega⟩
 ·rw [if_neg c]; exact ⟨h, by dsimp only; omega⟩
theorem wordsB_set {m : List Int} {i : Nat} {v : Int} (h : wordsB m 24 = true) (hv : 0 ≤ v ∧ v ≤ 65535) : wordsB (m.set i v) 24 = true := by
 have l := wordsB_24 h
 unfold wordsB
 rw [List.length_set, decide_eq_true (by omega), List.all_eq_true.2 fun x hx => decide_eq_true (set_word (fun x hx => wordsB_mem h x hx) hv x hx)]; rfl
theorem stepV_ok (m : List Int) (h : Hh) (hm : wordsB m 24 = true) (hh : hB h = true) : wordsB (stepV m h).1 24 = true ∧ hB (stepV m h).2 = true := by
 have w := workV_ok h.f0 h.f1 h.f2 (decodeV (rd m h.f1)).1 (decodeV (rd m h.f1)).2.1 (decodeV (rd m h.f1)).2.2.1 (decodeV (rd m h.f1)).2.2.2.1 (decodeV (rd m h.f1)).2.2.2.2.1 (gotV m h) hh
 have e : wkV m h = workV h.f0 h.f1 h.f2 (decodeV (rd m h.f1)).1 (decodeV (rd m h.f1)).2.1 (decodeV (rd m h.f1)).2.2.1 (decodeV (rd m h.f1)).2.2.2.1 (decodeV (rd m h.f1)).2.2.2.2.1 (gotV m h) := rfl
 rw [← e] at w
 unfold stepV
 refine ⟨?_, w.1⟩
 dsimp only
 split
 ·rename_i c; exact wordsB_set hm ⟨c, w.2⟩
 ·exact hm
theorem sAddr_eq (x : Int) : spec_l9Address.f x = some (x % 24) := by
 unfold spec_l9Address.f
 have hb := tmod_bd x 24 (by omega)
 have hu := tmod_up x 24 (by omega) (by omega)
 generalize x.tmod 24 = t at hb hu ⊢
 rw [← hu]
 by_cases c : t < 0
 ·rw [if_pos c, wrap_small (by omega) (by omega), tmod_pos _ _ (by omega), Int.emod_eq_of_lt (by omega) (by omega)]
 ·rw [if_neg c, tmod_pos _ _ (by omega), Int.add_emod_right, Int.emod_eq_of_lt (by omega) (by omega)]
theorem and_word (x : Int) : Go.bits .and .i64 x 65535 = x % 65536 := by
 have e : Go.bits .and .i64 x 65535 = IntKind.i64.wrap (((BitVec.ofInt 64 x &&& BitVec.ofInt 64 (65535 : Int)).toNat : Nat) : Int) := rfl
 have h : (BitVec.ofInt 64 x &&& BitVec.ofInt 64 (65535 : Int)).toNat = (x % 65536).toNat := by
  rw [BitVec.toNat_and, show (BitVec.ofInt 64 (65535 : Int)).toNat = 2 ^ 16 - 1 by decide, Nat.and_two_pow_sub_one_eq_mod, BitVec.toNat_ofInt]
  omega
 rw [e, h, wraps_i64 _ (by omega) (by omega)]
 omega
theorem sWord_eq (x : Int) : spec_l9Word.f x = some (x % 65536) := by
 unfold spec_l9Word.f
 rw [and_word]
theorem specDecode_eq (w : Int) : spec_Decode.f w = some (decodeV w) := by
 unfold spec_Decode.f decodeV decodeB
 rw [l1In_eq, Option.bind_some]
 by_cases h : 0 ≤ w ∧ w ≤ 65535
 ·have e1 : Int.tmod w 16 = w % 16 := tmod_pos _ _ h.1
  have e2 : Int.tmod (wrap64 (Int.tdiv w 16)) 4 = w / 16 % 4 := by rw [tdiv_pos _ _ h.1, wrap_small (by omega) (by omega), tmod_pos _ _ (by omega)]
  have e3 : Int.tmod (wrap64 (Int.tdiv w 64)) 4 = w / 64 % 4 := by rw [tdiv_pos _ _ h.1, wrap_small (by omega) (by omega), tmod_pos _ _ (by omega)]
  have e4 : Int.tmod (wrap64 (Int.tdiv w 256)) 4 = w / 256 % 4 := by rw [tdiv_pos _ _ h.1, wrap_small (by omega) (by omega), tmod_pos _ _ (by omega)]
  have e5 : wrap64 (Int.tdiv w 1024) = w / 1024 := by rw [tdiv_pos _ _ h.1, wrap_small (by omega) (by omega)]
  rw [decide_eq_true h, if_pos rfl, e1, e2, e3, e4, e5, specInsOk_eq, Option.bind_some, Bool.true_and]
  split <;> rfl
 ·rw [decide_eq_false h, if_neg (by simp), Bool.false_and, if_neg (by simp)]
theorem specTarget_eq (o i a b n : Int) (r : List Int) : spec_Target.f o i a b n r = some (targetV o i a b n r) := by
 unfold spec_Target.f targetV
 rw [specInsOk_eq, Option.bind_some]
 by_cases h : insOkB o i a b n = true
 ·have hb := insOkB_bounds h
  rw [if_pos h]
  by_cases hl : r.length = 4
  ·rw [if_pos (by omega)]
   by_cases c4 : o = 4
   ·rw [if_pos c4, if_pos (by omega), if_pos (by omega), sAddr_eq, Option.bind_some, if_pos ⟨h, .inl c4, hl⟩]
   rw [if_neg c4]
   by_cases c5 : o = 5
   ·rw [if_pos c5, if_pos (by omega), if_pos (by omega), sAddr_eq, Option.bind_some, if_pos ⟨h, .inr (.inl c5), hl⟩]
   rw [if_neg c5]
   by_cases c6 : o = 6
   ·rw [if_pos c6, if_pos (by omega), if_pos (by omega), sAddr_eq, Option.bind_some, if_pos ⟨h, .inr (.inr c6), hl⟩]
   ·rw [if_neg c6, if_neg (fun x => by rcases x.2.1 with q | q | q <;> first | exact c4 q | exact c5 q | exact c6 q)]
  ·rw [if_neg (by omega), if_neg (fun x => hl x.2.2)]
 ·rw [if_neg h, if_neg (fun x => h x.1)]
theorem specWork_j1 (k : Nat) (r : List Int) (pc st o i a b n got : Int) (hr : r.length = 4) (hw : ∀ x, x ∈ r → 0 ≤ x ∧ x ≤ 65535) (hg : 0 ≤ got ∧ got ≤ 65535) (hi : 0 ≤ i ∧ i ≤ 3) (hn : 0 ≤ n ∧ n ≤ 63) :
  spec_Work.j1 (k + 2) got (-1) (rd r a) (rd r b) o r pc st o i a b n r ((pc + 1) % 24) st = some (opV r pc st o i a b n got) := by
 have wa := rd_word hw a
 have wb := rd_word hw b
 rw [spec_Work.j1]
 unfold opV
 rw [wrap_small (x := rd r a + rd r b) (by omega) (by omega), wrap_small (x := rd r a - rd r b) (by omega) (by omega), wrap_small (x := rd r a + n) (by omega) (by omega), wrap_small (x := got + rd r b) (by omega) (by omega)]
 simp only [sWord_eq, sAddr_eq, Option.bind_some]
 have h1 : i < (r.length : Int) := by omega
 simp only [if_pos hi.1, if_pos h1]
 by_cases c1 : o = 1
 ·rw [if_pos c1, if_pos c1]
  all_goals (try rw [spec_Work.j2])
 rw [if_neg c1, if_neg c1]
 by_cases c2 : o = 2
 ·rw [if_pos c2, if_pos c2]
  all_goals (try rw [spec_Work.j2])
 rw [if_neg c2, if_neg c2]
 by_cases c3 : o = 10
 ·rw [if_pos c3, if_pos c3]
  all_goals (try rw [spec_Work.j2])
 rw [if_neg c3, if_neg c3]
 by_cases c4 : o = 3
 ·rw [if_pos c4, if_pos c4]
  all_goals (try rw [spec_Work.j2])
 rw [if_neg c4, if_neg c4]
 by_cases c5 : o = 4
 ·rw [if_pos c5, if_pos c5]
  all_goals (try rw [spec_Work.j2])
 rw [if_neg c5, if_neg c5]
 by_cases c6 : o = 5
 ·rw [if_pos c6, if_pos c6]
  all_goals (try rw [spec_Work.j2])
 rw [if_neg c6, if_neg c6]
 by_cases c7 : o = 6
 ·rw [if_pos c7, if_pos c7]
  all_goals (try rw [spec_Work.j2])
 rw [if_neg c7, if_neg c7]
 by_cases c8 : o = 7
 ·rw [if_pos c8, if_pos c8]
  by_cases c : rd r a = 0
  ·rw [if_pos c, if_pos c]
   all_goals (try rw [spec_Work.j2])
  ·rw [if_neg c, if_neg c]
   all_goals (try rw [spec_Work.j2])
 rw [if_neg c8, if_neg c8]
 by_cases c9 : o = 8
 ·rw [if_pos c9, if_pos c9]
  all_goals (try rw [spec_Work.j2])
 rw [if_neg c9, if_neg c9]
 by_cases c10 : o = 9
 ·rw [if_pos c10, if_pos c10]
  all_goals (try rw [spec_Work.j2])
 rw [if_neg c10, if_neg c10]
 all_goals (try rw [spec_Work.j2])
theorem specWork_eq (r : List Int) (pc st o i a b n got : Int) (hl : r.length ≤ 2097152) (k : Nat) (hk : r.length + 10 < k) : spec_Work.f k r pc st o i a b n got = some (workV r pc st o i a b n got) := by
 obtain ⟨k, rfl⟩ : ∃ m, k = m + 4 := ⟨k - 4, by omega⟩
 unfold spec_Work.f spec_l9Copy.f workV
 rw [Option.bind_some, if_pos (by simp; omega), Option.bind_some, List.nil_append]
 simp only [specHartOk_eq r pc st (by omega) (k + 4) (by omega), Option.bind_some]
 have jt : spec_Work.j0 (k + 4) got true r pc st o i a b n r pc st = some (r, pc, st, -1) := by rw [spec_Work.j0, if_pos rfl]
 by_cases h : hartB r pc st = true
 ·obtain ⟨p1, p2, p3, p4⟩ := hartB_parts h
  rw [if_pos h]
  by_cases hs : st = 0
  ·rw [if_pos hs, l1In_eq, Option.bind_some]
   by_cases hg : 0 ≤ got ∧ got ≤ 65535
   ·rw [if_pos ⟨h, hs, hg⟩, decide_eq_true hg, Bool.not_true, spec_Work.j0, if_neg (by simp), wrap_small (x := pc + 1) (by omega) (by omega), sAddr_eq, Option.bind_some, specInsOk_eq, Option.bind_some]
    by_cases hi : insOkB o i a b n = true
    ·obtain ⟨b0, b0', b1, b1', b2, b2', b3, b3', b4, b4'⟩ := insOkB_bounds hi
     rw [if_pos hi, if_pos hi, if_pos b2, if_pos (by omega), if_pos b3, if_pos (by omega)]
     exact specWork_j1 (k + 1) r pc st o i a b n got p1 p2 hg ⟨b1, b1'⟩ ⟨b4, b4'⟩
    ·rw [if_neg hi, if_neg hi]
   ·rw [if_neg (fun c => hg c.2.2), decide_eq_false hg, Bool.not_false, jt]
  ·rw [if_neg hs, jt, if_neg (fun c => hs c.2.1)]
 ·rw [if_neg h, jt, if_neg (fun c => h c.1)]
theorem specFlatStep_eq (m : List Int) (h : Hh) (hm : m.length ≤ 2097152) (hl : h.f0.length ≤ 2097152) (k : Nat) (hk : 2097200 < k) : spec_FlatStep.f k m h.f0 h.f1 h.f2 = some ((flatV m h).1, (flatV m h).2.f0, (flatV m h).2.f1, (flatV m h).2.f2) := by
 obtain ⟨k, rfl⟩ : ∃ j, k = j + 1 := ⟨k - 1, by omega⟩
 unfold spec_FlatStep.f flatV
 rw [Option.bind_some, if_pos (by simp; omega), Option.bind_some, List.nil_append, l1Words_eq m 24 hm (k + 1) (by omega), Option.bind_some]
 have jt : spec_FlatStep.j0 (k + 1) m m true h.f0 h.f1 h.f2 = some (m, h.f0, h.f1, h.f2) := by
  rw [spec_FlatStep.j0, if_pos rfl]
  unfold spec_l9Copy.f
  rw [Option.bind_some, if_pos (by simp; omega), Option.bind_some, List.nil_append]
 by_cases w : wordsB m 24 = true
 ·have l24 := wordsB_24 w
  rw [if_pos w, specHartOk_eq _ _ _ hl (k + 1) (by omega), Option.bind_some]
  by_cases hh : hartB h.f0 h.f1 h.f2 = true
  ·obtain ⟨p1, p2, p3, p4⟩ := hartB_parts hh
   rw [if_pos hh]
   by_cases hs : h.f2 = 0
   ·have g : goB h = true := by unfold goB hB; rw [hh, hs]; rfl
    rw [if_pos ⟨w, g⟩, show (h.f2 != 0) = false by rw [hs]; rfl, spec_FlatStep.j0, if_neg (by simp), if_pos p3.1, if_pos (by omega), specDecode_eq, Option.bind_some, specTarget_eq, Option.bind_some]
    unfold stepV
    rcases tgt_range (decodeV (rd m h.f1)).1 (decodeV (rd m h.f1)).2.1 (decodeV (rd m h.f1)).2.2.1 (decodeV (rd m h.f1)).2.2.2.1 (decodeV (rd m h.f1)).2.2.2.2.1 h.f0 with t | t
    ·have e : gotV m h = 0 := by unfold gotV; rw [if_neg (by omega)]
     rw [if_neg (by omega), specWork_eq _ _ _ _ _ _ _ _ _ (by omega) k (by omega), Option.bind_some]
     unfold wkV; rw [e]
     by_cases c : 0 ≤ (workV h.f0 h.f1 h.f2 (decodeV (rd m h.f1)).1 (decodeV (rd m h.f1)).2.1 (decodeV (rd m h.f1)).2.2.1 (decodeV (rd m h.f1)).2.2.2.1 (decodeV (rd m h.f1)).2.2.2.2.1 0).2.2.2
     ·have := put_tgt c; omega
     ·rw [if_neg c, if_neg c]
    ·have e : gotV m h = rd m (tgtV m h) := by unfold gotV tgtV; rw [if_pos t.1]
     rw [if_pos t.1, if_pos t.1, if_pos (by omega), specWork_eq _ _ _ _ _ _ _ _ _ (by omega) k (by omega), Option.bind_some]
     unfold wkV; rw [e]; unfold tgtV
     by_cases c : 0 ≤ (workV h.f0 h.f1 h.f2 (decodeV (rd m h.f1)).1 (decodeV (rd m h.f1)).2.1 (decodeV (rd m h.f1)).2.2.1 (decodeV (rd m h.f1)).2.2.2.1 (decodeV (rd m h.f1)).2.2.2.2.1 (rd m (targetV (decodeV (rd m h.f1)).1 (decodeV (rd m h.f1)).2.1 (decodeV (rd m h.f1)).2.2.1 (decodeV (rd m h.f1)).2.2.2.1 (decodeV (rd m h.f1)).2.2.2.2.1 h.f0))).2.2.2
     ·rw [if_pos c, if_pos c, if_pos (by omega)]
     ·rw [if_neg c, if_neg c]
   ·have g : ¬ goB h = true := fun q => by unfold goB at q; rw [Bool.and_eq_true] at q; exact hs (by simpa using q.2)
    rw [show (h.f2 != 0) = true by simpa using hs, jt, if_neg (fun q => g q.2)]
  ·have g : ¬ goB h = true := fun q => by unfold goB hB at q; rw [Bool.and_eq_true] at q; exact hh q.1
   rw [if_neg hh, jt, if_neg (fun q => g q.2)]
 ·rw [if_neg w, jt, if_neg (fun q => w q.1)]
theorem rdHrt (l : List S29) (i : Nat) (h : i < l.length) : rd_T29 l (i : Int) = l[i] := by
 unfold rd_T29; simp [List.getD, h]
def hOk (h : S29) : Bool := hartB h.f0 h.f1 h.f2
def hBy (h : S29) : List Int := twoB h.f0 ++ [h.f1 % 256, h.f2 % 256]
theorem hBy_length (h : S29) (c : hOk h = true) : (hBy h).length = 10 := by unfold hBy; rw [List.length_append, twoB_length, hartB_len c]; rfl
def saveB (m : List Int) (hs : List S29) : List Int := if wordsB m 24 = true ∧ hs.length ≤ 8 ∧ hs.all hOk = true then ((hs.length : Int) % 256) :: (twoB m ++ hs.flatMap hBy) else []
theorem implSaveB_l (hs : List S29) (hx : ∀ h ∈ hs, h.f0.length ≤ 1048576) (hn : hs.length ≤ 8) : ∀ (d i : Nat) (acc : List Int) (k : Nat), i + d = hs.length → acc.length ≤ 100 + 10 * i → 2097160 + d < k →
  impl_SaveBytes.l0 k acc hs (hs.length : Int) (i : Int) = some (if (hs.drop i).all hOk = true then acc ++ (hs.drop i).flatMap hBy else [])
 | 0, i, acc, k, hi, ha, hk => by
  obtain ⟨k, rfl⟩ : ∃ m, k = m + 1 := ⟨k - 1, by omega⟩
  rw [impl_SaveBytes.l0, if_neg (by omega), List.drop_of_length_le (by omega)]; simp
 | d + 1, i, acc, k, hi, ha, hk => by
  obtain ⟨k, rfl⟩ : ∃ m, k = m + 1 := ⟨k - 1, by omega⟩
  have hd : hs.drop i = hs[i] :: hs.drop (i + 1) := List.drop_eq_getElem_cons (by omega)
  have hl := hx _ (List.getElem_mem (by omega : i < hs.length))
  rw [impl_SaveBytes.l0, if_pos (by omega), if_pos (by omega), if_pos (by omega), rdHrt hs i (by omega), implHartOk_eq _ _ _ (by omega) k (by omega), Option.bind_some, hd, List.all_cons, List.flatMap_cons]
  by_cases c : hOk hs[i] = true
  ·have c' : hartB hs[i].f0 hs[i].f1 hs[i].f2 = true := c
   have e : hartBytesV hs[i].f0 hs[i].f1 hs[i].f2 = hBy hs[i] := by unfold hartBytesV; rw [if_pos c']; rfl
   have hb := hBy_length _ c
   rw [if_pos c', implHartBytes_eq _ _ _ hl k (by omega), Option.bind_some, e, if_pos (by omega), wrap_succ (by omega), implSaveB_l hs hx hn d (i + 1) _ k (by omega) (by rw [List.length_append, hb]; omega) (by omega), c, Bool.true_and, List.append_assoc]
  ·have c' : ¬ hartB hs[i].f0 hs[i].f1 hs[i].f2 = true := c
   have c2 : hOk hs[i] = false := by simpa using c
   rw [if_neg c', c2, Bool.false_and]; rfl
theorem implSaveBytes_eq (m : List Int) (hs : List S29) (hm : m.length ≤ 1048576) (hx : ∀ h ∈ hs, h.f0.length ≤ 1048576) (hl : hs.length ≤ 1048576) (k : Nat) (hk : 2200000 < k) : impl_SaveBytes.f k m hs = some (saveB m hs) := by
 obtain ⟨k, rfl⟩ : ∃ m, k = m + 1 := ⟨k - 1, by omega⟩
 unfold impl_SaveBytes.f saveB
 rw [memOk_eq m (by omega) _ (by omega), Option.bind_some]
 by_cases hw : wordsB m 24 = true
 ·rw [if_pos hw]
  by_cases hn : hs.length ≤ 8
  ·rw [decide_eq_false (by omega), impl_SaveBytes.j0, if_neg (by simp), Option.bind_some, implMemBytes_eq m (by omega) k (by omega), Option.bind_some]
   have e : memB m = twoB m := by unfold memB; rw [if_pos hw]
   have l24 := wordsB_24 hw
   rw [e, if_pos (by rw [twoB_length, l24]; show 1 + 2 * 24 < _; omega)]
   have h := implSaveB_l hs hx hn hs.length 0 ([(hs.length : Int) % 256] ++ twoB m) k (by omega) (by rw [List.length_append, twoB_length, l24]; show 1 + 2 * 24 ≤ _; omega) (by omega)
   simp only [List.drop_zero] at h
   have h' : impl_SaveBytes.l0 k ([(hs.length : Int) % 256] ++ twoB m) hs (hs.length : Int) 0 = _ := h
   rw [h']
   by_cases c : hs.all hOk = true
   ·rw [if_pos c, if_pos ⟨hw, hn, c⟩]; simp
   ·rw [if_neg c, if_neg (fun hh => c hh.2.2)]
  ·rw [decide_eq_true (by omega), impl_SaveBytes.j0, if_pos rfl, if_neg (fun hh => hn hh.2.1)]
 ·rw [if_neg hw, impl_SaveBytes.j0, if_pos rfl, if_neg (fun hh => hw hh.1)]
def wordX (x : Int) : Prop := 0 ≤ x ∧ x ≤ 65535
theorem specCode_w (o r a b n : Int) : ∃ v t, spec_Code.f o r a b n = some (v, t) ∧ wordX v := by
 unfold spec_Code.f
 rw [specInsOk_eq, Option.bind_some]
 by_cases h : insOkB o r a b n = true
 ·have q := insOkB_bounds h
  rw [if_pos h]
  refine ⟨_, _, rfl, ?_⟩
  unfold wordX
  rw [wrap_small (x := 16 * r) (by omega) (by omega), wrap_small (x := 64 * a) (by omega) (by omega), wrap_small (x := 256 * b) (by omega) (by omega), wrap_small (x := 1024 * n) (by omega) (by omega)]
  rw [wrap_small (x := o + 16 * r) (by omega) (by omega)]
  rw [wrap_small (x := o + 16 * r + 64 * a) (by omega) (by omega)]
  rw [wrap_small (x := o + 16 * r + 64 * a + 256 * b) (by omega) (by omega)]
  rw [wrap_small (x := o + 16 * r + 64 * a + 256 * b + 1024 * n) (by omega) (by omega)]
  omega
 ·rw [if_neg h]; exact ⟨_, _, rfl, by unfold wordX; omega⟩
theorem specCodeW_fn : ∃ cf : Int → Int → Int → Int → Int → Int × Bool, (∀ o r a b n, spec_Code.f o r a b n = some (cf o r a b n)) ∧ ∀ o r a b n, wordX (cf o r a b n).1 := by
 have h : ∀ o r a b n, ∃ v : Int × Bool, spec_Code.f o r a b n = some v ∧ wordX v.1 := fun o r a b n => by
  obtain ⟨v, t, e, w⟩ := specCode_w o r a b n
  exact ⟨(v, t), e, w⟩
 exact ⟨fun o r a b n => (h o r a b n).choose, fun o r a b n => (h o r a b n).choose_spec.1, fun o r a b n => (h o r a b n).choose_spec.2⟩
theorem words_set {m : List Int} {i : Nat} {v : Int} (h : ∀ x ∈ m, wordX x) (hv : wordX v) : ∀ x ∈ m.set i v, wordX x := fun x hx => by
 rcases List.mem_or_eq_of_mem_set hx with hx | rfl
 ·exact h x hx
 ·exact hv
theorem words_snoc {m : List Int} {v : Int} (h : ∀ x ∈ m, wordX x) (hv : wordX v) : ∀ x ∈ m ++ [v], wordX x := fun x hx => by
 rcases List.mem_append.1 hx with hx | hx
 ·exact h x hx
 ·rw [List.mem_singleton] at hx; subst hx; exact hv
theorem drawMemW_l1 (c : List Int) (i s : Int) (T : List S59) (hT : T.length = 4) : ∀ (k j : Nat) (m : List Int), m.length = 24 → (∀ x ∈ m, wordX x) → j ≤ 4 → 4 < j + k → ∃ m', spec_l9DrawMem.l1 k m T (j : Int) c i s = some (m', i, s) ∧ m'.length = 24 ∧ ∀ x ∈ m', wordX x
 | 0, j, m, _, _, h1, h2 => by omega
 | k + 1, j, m, hm, hw, h1, h2 => by
  obtain ⟨cf, hcf, hcw⟩ := specCodeW_fn
  rw [spec_l9DrawMem.l1]
  by_cases h : j < 4
  ·rw [if_pos (by omega), if_pos (by omega), hcf, Option.bind_some, if_pos (by omega), wrap_succ (by omega)]
   exact drawMemW_l1 c i s T hT k (j + 1) _ (by simpa using hm) (words_set hw (hcw _ _ _ _ _)) (by omega) (by omega)
  ·rw [if_neg (by omega)]; exact ⟨m, rfl, hm, hw⟩
theorem drawMemW_l2 (c : List Int) (i s : Int) (T : List S59) (hT : T.length = 4) : ∀ (k j : Nat) (m : List Int), m.length = 24 → (∀ x ∈ m, wordX x) → j ≤ 4 → 4 < j + k → ∃ m', spec_l9DrawMem.l2 k m T (j : Int) c i s = some (m', i, s) ∧ m'.length = 24 ∧ ∀ x ∈ m', wordX x
 | 0, j, m, _, _, h1, h2 => by omega
 | k + 1, j, m, hm, hw, h1, h2 => by
  obtain ⟨cf, hcf, hcw⟩ := specCodeW_fn
  rw [spec_l9DrawMem.l2]
  by_cases h : j < 4
  ·rw [if_pos (by omega), if_pos (by omega), hcf, Option.bind_some, if_pos (by omega), wrap_succ (by omega)]
   exact drawMemW_l2 c i s T hT k (j + 1) _ (by simpa using hm) (words_set hw (hcw _ _ _ _ _)) (by omega) (by omega)
  ·rw [if_neg (by omega)]; exact ⟨m, rfl, hm, hw⟩
theorem drawMemW_l0 (c : List Int) : ∀ (k j : Nat) (m : List Int) (i s : Int), curOk c i → m.length = j → (∀ x ∈ m, wordX x) → j ≤ 24 → 40 < j + k → ∃ m' i' s', spec_l9DrawMem.l0 k m (j : Int) c i s = some (m', i', s') ∧ m'.length = 24 ∧ (∀ x ∈ m', wordX x) ∧ curOk c i'
 | 0, j, m, i, s, _, _, _, h1, h2 => by omega
 | k + 1, j, m, i, s, hc, hm, hw, h1, h2 => by
  obtain ⟨cf, hcf, hcw⟩ := specCodeW_fn
  have pick : ∀ v : Int, v ∈ ([0, 1, 5, 65535] : List Int) → wordX v := fun v hv => by
   simp only [List.mem_cons, List.mem_nil_iff, or_false, List.not_mem_nil] at hv
   unfold wordX; omega
  rw [spec_l9DrawMem.l0]
  by_cases h : j < 24
  ·obtain ⟨o, r, a, b, n, i1, s1, e1, c1⟩ := drawIns_ex c i s hc k (by omega)
   rw [if_pos (by omega), e1, Option.bind_some, hcf, Option.bind_some]
   obtain ⟨v2, i2, s2, e2, p2, c2⟩ := l1PickInt_ex c i1 s1 c1 [0, 1, 5, 65535] (by simp) (by simp)
   obtain ⟨v3, i3, s3, e3, c3⟩ := l1Once_ex c i1 s1 c1 9 (by omega) (by omega)
   obtain ⟨v4, i4, s4, e4, p4, c4⟩ := l1PickInt_ex c i3 s3 c3 [0, 1, 5, 65535] (by simp) (by simp)
   have next : ∀ (x : Int) i s, wordX x → curOk c i → ∃ m' i' s', (if m.length < 17592186044416 then (spec_l9DrawMem.l0 k (m ++ [x]) (wrap64 ((j : Int) + 1)) c i s) else none) = some (m', i', s') ∧ m'.length = 24 ∧ (∀ x ∈ m', wordX x) ∧ curOk c i' := by
    intro x i s hx hc
    rw [if_pos (by omega), wrap_succ (by omega)]
    exact drawMemW_l0 c k (j + 1) _ i s hc (by simp; omega) (words_snoc hw hx) (by omega) (by omega)
   by_cases h15 : (j : Int) > 15
   ·rw [if_pos h15]
    simp only [e2, Option.bind_some]; exact next _ _ _ (pick _ p2) c2
   ·rw [if_neg h15]
    simp only [e3, Option.bind_some]
    by_cases hv : v3 = true
    ·rw [if_pos hv]
     simp only [e4, Option.bind_some]; exact next _ _ _ (pick _ p4) c4
    ·rw [if_neg hv]; exact next _ _ _ (hcw _ _ _ _ _) c3
  ·obtain ⟨v, i1, s1, e1, _, _, c1⟩ := l1Below_ex c i s hc 4 (by omega) (by omega)
   rw [if_neg (by omega), e1, Option.bind_some]
   by_cases h0 : v = 0
   ·obtain ⟨m', e, hl, hw'⟩ := drawMemW_l1 c i1 s1 [⟨1, 1, 0, 0, 1⟩, ⟨6, 2, 0, 1, 20⟩, ⟨10, 3, 2, 1, 0⟩, ⟨8, 0, 0, 0, 1⟩] rfl k 0 m (by omega) hw (by omega) (by omega)
    rw [if_pos h0]; exact ⟨_, _, _, e, hl, hw', c1⟩
   ·rw [if_neg h0]
    by_cases h1 : v = 1
    ·obtain ⟨m', e, hl, hw'⟩ := drawMemW_l2 c i1 s1 [⟨4, 1, 0, 0, 8⟩, ⟨3, 1, 1, 0, 1⟩, ⟨5, 0, 0, 1, 8⟩, ⟨8, 0, 0, 0, 8⟩] rfl k 0 m (by omega) hw (by omega) (by omega)
     rw [if_pos h1]; exact ⟨_, _, _, e, hl, hw', c1⟩
    ·rw [if_neg h1]; exact ⟨_, _, _, rfl, by omega, hw, c1⟩
theorem drawMemW_ex (c : List Int) (i s : Int) (h : curOk c i) (k : Nat) (hk : 50 < k) : ∃ m i' s', spec_l9DrawMem.f k c i s = some (m, i', s') ∧ wordsB m 24 = true ∧ curOk c i' := by
 obtain ⟨m, i1, s1, e, hl, hw, hc⟩ := drawMemW_l0 c k 0 [] i s h rfl (by simp) (by omega) (by omega)
 refine ⟨m, i1, s1, e, ?_, hc⟩
 unfold wordsB
 rw [decide_eq_true (by omega), Bool.true_and, List.all_eq_true]
 exact fun x hx => decide_eq_true (hw x hx)
theorem l9Addr_eq (x : Int) : spec_l9Address.f x = some (x % 24) := by
 unfold spec_l9Address.f
 have hb := tmod_bd x 24 (by omega)
 have hu := tmod_up x 24 (by omega) (by omega)
 generalize x.tmod 24 = t at hb hu ⊢
 rw [← hu]
 by_cases c : t < 0
 ·rw [if_pos c, wrap_small (by omega) (by omega), tmod_pos _ _ (by omega), Int.emod_eq_of_lt (by omega) (by omega)]
 ·rw [if_neg c, tmod_pos _ _ (by omega), Int.add_emod_right, Int.emod_eq_of_lt (by omega) (by omega)]
theorem specHartNew_eq (x : Int) : spec_HartNew.f x = some ([0, 0, 0, 0], x % 24, 0) := by
 unfold spec_HartNew.f
 rw [l9Addr_eq]; rfl
theorem newHart_ok (x : Int) : hartB [0, 0, 0, 0] (x % 24) 0 = true := by
 have h1 : 0 ≤ x % 24 ∧ x % 24 ≤ 23 := by omega
 unfold hartB wordsB
 rw [decide_eq_true h1]; rfl
theorem drawHart_l0 (c : List Int) (pc st : Int) : ∀ (d j : Nat) (r : List Int) (i s : Int) (k : Nat), curOk c i → r.length = 4 → j + d = 4 → d < k → ∃ r' p' t' i' s', spec_l9DrawHart.l0 k (j : Int) c i s r pc st = some (r', p', t', i', s') ∧ r'.length ≤ 4 ∧ curOk c i'
 | 0, j, r, i, s, k, h, hr, hj, hk => by
  obtain ⟨k, rfl⟩ : ∃ q, k = q + 1 := ⟨k - 1, by omega⟩
  obtain ⟨v, i1, s1, e1, _, _, c1⟩ := l1Below_ex c i s h 12 (by omega) (by omega)
  obtain ⟨v2, i2, s2, e2, _, _, c2⟩ := l1Below_ex c i1 s1 c1 5 (by omega) (by omega)
  obtain ⟨v3, i3, s3, e3, _, c3⟩ := l1PickInt_ex c i1 s1 c1 [(-1), 65536] (by simp) (by simp)
  obtain ⟨v4, i4, s4, e4, _, c4⟩ := l1PickInt_ex c i1 s1 c1 [(-1), 24] (by simp) (by simp)
  simp only [spec_l9DrawHart.l0]
  rw [if_neg (by omega)]
  simp only [e1, e2, e3, e4, Option.bind_some]
  by_cases h0 : v = 0
  ·rw [if_pos h0]; exact ⟨_, _, _, _, _, rfl, by omega, c2⟩
  ·rw [if_neg h0]
   by_cases h1 : v = 1
   ·rw [if_pos h1, if_pos (by omega)]; exact ⟨_, _, _, _, _, rfl, by rw [List.length_set]; omega, c3⟩
   ·rw [if_neg h1]
    by_cases h2 : v = 2
    ·rw [if_pos h2]; exact ⟨_, _, _, _, _, rfl, by omega, c4⟩
    ·rw [if_neg h2]
     by_cases h3 : v = 3
     ·rw [if_pos h3, if_pos (by omega)]; exact ⟨_, _, _, _, _, rfl, by rw [List.length_drop]; omega, c1⟩
     ·rw [if_neg h3]; exact ⟨_, _, _, _, _, rfl, by omega, c1⟩
 | d + 1, j, r, i, s, k, h, hr, hj, hk => by
  obtain ⟨k, rfl⟩ : ∃ q, k = q + 1 := ⟨k - 1, by omega⟩
  obtain ⟨v, i1, s1, e1, _, c1⟩ := l1PickInt_ex c i s h [0, 1, 2, 20, 65535] (by simp) (by simp)
  simp only [spec_l9DrawHart.l0]
  rw [if_pos (by omega), e1, Option.bind_some, if_pos (by omega), if_pos (by omega), wrap_succ (by omega)]
  exact drawHart_l0 c pc st d (j + 1) _ i1 s1 k c1 (by rw [List.length_set]; exact hr) (by omega) (by omega)
theorem drawHart_ex (c : List Int) (i s : Int) (h : curOk c i) (k : Nat) (hk : 10 < k) : ∃ r p t i' s', spec_l9DrawHart.f k c i s = some (r, p, t, i', s') ∧ r.length ≤ 4 ∧ curOk c i' := by
 unfold spec_l9DrawHart.f
 obtain ⟨v, i1, s1, e1, _, _, c1⟩ := l1Below_ex c i s h 20 (by omega) (by omega)
 rw [e1, Option.bind_some, specHartNew_eq, Option.bind_some]
 exact drawHart_l0 c _ _ 4 0 _ i1 s1 k c1 rfl (by omega) (by omega)
def runOk (m : List Int) (hs : List S29) (o : List Int) : Prop := wordsB m 24 = true ∧ (1 ≤ hs.length ∧ hs.length ≤ 3) ∧ (∀ h ∈ hs, hartB h.f0 h.f1 h.f2 = true) ∧ o.length ≤ 100 ∧ ∀ x ∈ o, 0 ≤ x ∧ x < (hs.length : Int)
theorem drawRun_l1 (c : List Int) (most : Int) (hmost : 1 ≤ most ∧ most ≤ 100) (m : List Int) (hs : List S29) (hm : wordsB m 24 = true) (hl : 1 ≤ hs.length ∧ hs.length ≤ 3) (hh : ∀ h ∈ hs, hartB h.f0 h.f1 h.f2 = true) : ∀ (d j : Nat) (o : List Int) (i s : Int) (k : Nat), curOk c i → o.length = j → (∀ x ∈ o, 0 ≤ x ∧ x < (hs.length : Int)) → j + d = 100 → 10 + d < k →
  ∃ o' i' s', spec_l18DrawRun.l1 k most m hs o (j : Int) c i s = some (m, hs, o', i', s') ∧ runOk m hs o' ∧ curOk c i'
 | d, j, o, i, s, k, h, hj, ho, hd, hk => by
  obtain ⟨k, rfl⟩ : ∃ q, k = q + 1 := ⟨k - 1, by omega⟩
  obtain ⟨v, i1, s1, e1, p1, q1, c1⟩ := l1Below_ex c i s h most (by omega) (by omega)
  simp only [spec_l18DrawRun.l1]
  rw [e1, Option.bind_some]
  dsimp only
  by_cases hc : (j : Int) < v
  ·match d, hd, hk with
   | 0, hd, _ => omega
   | d + 1, hd, hk =>
    obtain ⟨v2, i2, s2, e2, p2, q2, c2⟩ := l1Below_ex c i1 s1 c1 (hs.length : Int) (by omega) (by omega)
    rw [if_pos hc, e2, Option.bind_some]
    dsimp only
    rw [if_pos (by omega), wrap_succ (by omega)]
    exact drawRun_l1 c most hmost m hs hm hl hh d (j + 1) _ i2 s2 k c2 (by rw [List.length_append, hj]; rfl) (fun x hx => by
     rcases List.mem_append.1 hx with hx | hx
     ·exact ho x hx
     ·rw [List.mem_singleton] at hx; subst hx; exact ⟨p2, q2⟩) (by omega) (by omega)
  ·rw [if_neg hc]
   exact ⟨_, _, _, rfl, ⟨hm, hl, hh, by omega, ho⟩, c1⟩
theorem drawRun_l0 (c : List Int) (most : Int) (hmost : 1 ≤ most ∧ most ≤ 100) (m : List Int) (hm : wordsB m 24 = true) : ∀ (d j : Nat) (hs : List S29) (i s : Int) (k : Nat), curOk c i → hs.length = j → (∀ h ∈ hs, hartB h.f0 h.f1 h.f2 = true) → j + d = 3 → 300 + d < k →
  ∃ hs' o' i' s', spec_l18DrawRun.l0 k most m hs (j : Int) c i s = some (m, hs', o', i', s') ∧ runOk m hs' o' ∧ curOk c i'
 | d, j, hs, i, s, k, h, hj, hh, hd, hk => by
  obtain ⟨k, rfl⟩ : ∃ q, k = q + 1 := ⟨k - 1, by omega⟩
  obtain ⟨v, i1, s1, e1, p1, q1, c1⟩ := l1Below_ex c i s h 3 (by omega) (by omega)
  simp only [spec_l18DrawRun.l0]
  rw [e1, Option.bind_some]
  dsimp only
  rw [wrap_small (x := 1 + v) (by omega) (by omega)]
  by_cases hc : (j : Int) < 1 + v
  ·match d, hd, hk with
   | 0, hd, _ => omega
   | d + 1, hd, hk =>
    obtain ⟨r, p, t, i2, s2, e2, hr, c2⟩ := drawHart_ex c i1 s1 c1 k (by omega)
    rw [if_pos hc, e2, Option.bind_some]
    dsimp only
    rw [specHartOk_eq r p t (by omega) k (by omega), Option.bind_some]
    have more : ∀ (z : S29) (i s : Int), hartB z.f0 z.f1 z.f2 = true → curOk c i → ∃ hs' o' i' s', spec_l18DrawRun.l0 k most m (hs ++ [z]) ((j + 1 : Nat) : Int) c i s = some (m, hs', o', i', s') ∧ runOk m hs' o' ∧ curOk c i' := fun z i s hz hci =>
     drawRun_l0 c most hmost m hm d (j + 1) _ i s k hci (by rw [List.length_append, hj]; rfl) (fun x hx => by
      rcases List.mem_append.1 hx with hx | hx
      ·exact hh x hx
      ·rw [List.mem_singleton] at hx; subst hx; exact hz) (by omega) (by omega)
    by_cases hb : hartB r p t = true
    ·rw [if_pos hb, if_pos (by omega), wrap_succ (by omega)]
     exact more _ _ _ hb c2
    ·obtain ⟨v3, i3, s3, e3, _, _, c3⟩ := l1Below_ex c i2 s2 c2 20 (by omega) (by omega)
     rw [if_neg hb, e3, Option.bind_some, specHartNew_eq, Option.bind_some, if_pos (by omega), wrap_succ (by omega)]
     exact more _ _ _ (newHart_ok _) c3
  ·rw [if_neg hc]
   obtain ⟨o', i2, s2, e2, hok, c2⟩ := drawRun_l1 c most hmost m hs hm (by omega) hh 100 0 [] i1 s1 k c1 rfl (by simp) (by omega) (by omega)
   exact ⟨_, _, _, _, e2, hok, c2⟩
theorem drawRun_ex (c : List Int) (i s : Int) (h : curOk c i) (most : Int) (hmost : 1 ≤ most ∧ most ≤ 100) (k : Nat) (hk : 400 < k) : ∃ m hs o i' s', spec_l18DrawRun.f k c i s most = some (m, hs, o, i', s') ∧ runOk m hs o ∧ curOk c i' := by
 unfold spec_l18DrawRun.f
 obtain ⟨m, i1, s1, e1, hm, c1⟩ := drawMemW_ex c i s h k (by omega)
 rw [e1, Option.bind_some]
 dsimp only
 obtain ⟨hs, o, i2, s2, e2, hok, c2⟩ := drawRun_l0 c most hmost m hm 3 0 [] i1 s1 k c1 rfl (by simp) (by omega) (by omega)
 exact ⟨_, _, _, _, _, e2, hok, c2⟩
def addL (out : List (List Int)) (x : List Int) : List (List Int) := if 40 ≤ out.length ∨ x ∈ out then out else out ++ [x]
def addAll (out ls : List (List Int)) : List (List Int) := ls.foldl addL out
def absL (out ls : List (List Int)) : Prop := 40 ≤ out.length ∨ ∀ x ∈ ls, x ∈ out
theorem addL_full {out : List (List Int)} (h : 40 ≤ out.length) (x : List Int) : addL out x = out := if_pos (.inl h)
theorem addL_len (out : List (List Int)) (x : List Int) : out.length ≤ (addL out x).length ∧ (out.length ≤ 40 → (addL out x).length ≤ 40) := by
 unfold addL
 split
 ·exact ⟨Nat.le_refl _, id⟩
 ·rename_i h
  have := (not_or.1 h).1
  rw [List.length_append]
  exact ⟨by omega, fun _ => by simp; omega⟩
theorem addL_mem {out : List (List Int)} {y : List Int} (x : List Int) (h : y ∈ out) : y ∈ addL out x := by
 unfold addL
 split
 ·exact h
 ·exact List.mem_append_left _ h
theorem addL_has (out : List (List Int)) (x : List Int) : 40 ≤ (addL out x).length ∨ x ∈ addL out x := by
 unfold addL
 split
 ·assumption
 ·exact .inr (List.mem_append_right _ (List.mem_singleton.2 rfl))
theorem addAll_cons (out : List (List Int)) (x : List Int) (ls : List (List Int)) : addAll out (x :: ls) = addAll (addL out x) ls := rfl
theorem addAll_app (out a b : List (List Int)) : addAll out (a ++ b) = addAll (addAll out a) b := by unfold addAll; rw [List.foldl_append]
theorem addAll_len (ls : List (List Int)) : ∀ out : List (List Int), out.length ≤ (addAll out ls).length ∧ (out.length ≤ 40 → (addAll out ls).length ≤ 40) := by
 induction ls with
 | nil => exact fun _ => ⟨Nat.le_refl _, id⟩
 | cons x ls ih =>
  intro out
  have a := addL_len out x
  have b := ih (addL out x)
  rw [addAll_cons]
  exact ⟨by omega, fun h => b.2 (a.2 h)⟩
theorem addAll_mem {y : List Int} (ls : List (List Int)) : ∀ {out : List (List Int)}, y ∈ out → y ∈ addAll out ls := by
 induction ls with
 | nil => exact fun h => h
 | cons x ls ih => intro out h; exact ih (addL_mem x h)
theorem absL_mono {out : List (List Int)} {ls : List (List Int)} (ls' : List (List Int)) (h : absL out ls) : absL (addAll out ls') ls := by
 rcases h with h | h
 ·exact .inl (Nat.le_trans h (addAll_len ls' out).1)
 ·exact .inr fun x hx => addAll_mem ls' (h x hx)
theorem absL_all (ls : List (List Int)) : ∀ out : List (List Int), absL (addAll out ls) ls := by
 induction ls with
 | nil => exact fun _ => .inr fun x hx => by cases hx
 | cons x ls ih =>
  intro out
  rw [addAll_cons]
  rcases ih (addL out x) with h | h
  ·exact .inl h
  ·rcases addL_has out x with h2 | h2
   ·exact .inl (Nat.le_trans h2 (addAll_len ls _).1)
   ·exact .inr fun y hy => by
     rcases List.mem_cons.1 hy with rfl | hy
     ·exact addAll_mem ls h2
     ·exact h y hy
theorem addL_of {out : List (List Int)} {x : List Int} (h : 40 ≤ out.length ∨ x ∈ out) : addL out x = out := if_pos h
theorem addAll_of (ls : List (List Int)) {out : List (List Int)} (h : absL out ls) : addAll out ls = out := by
 induction ls with
 | nil => rfl
 | cons x ls ih =>
  rw [addAll_cons, addL_of (h.elim .inl fun h => .inr (h x (List.mem_cons_self ..)))]
  exact ih (h.elim .inl fun h => .inr fun y hy => h y (List.mem_cons_of_mem _ hy))
theorem addAll_full {out : List (List Int)} (h : 40 ≤ out.length) (ls : List (List Int)) : addAll out ls = out := addAll_of ls (.inl h)
def runIx (hs : List Hh) : List Nat := (List.range hs.length).filter fun i => decide ((rd_T29 hs (i : Int)).f2 = 0)
def goM (m : List Int) (hs : List Hh) (i : Nat) : List Int := (stepV m (rd_T29 hs (i : Int))).1
def goH (m : List Int) (hs : List Hh) (i : Nat) : List Hh := hs.set i (stepV m (rd_T29 hs (i : Int))).2
def leaves : Nat → List Int → List Hh → List (List Int)
 | 0, m, _ => [m]
 | n + 1, m, hs => if runIx hs = [] then [m] else (runIx hs).flatMap fun i => leaves n (goM m hs i) (goH m hs i)
def okS (m : List Int) (hs : List Hh) : Prop := wordsB m 24 = true ∧ hs.length ≤ 3 ∧ ∀ h ∈ hs, hB h = true
theorem okS_go {m : List Int} {hs : List Hh} (h : okS m hs) {i : Nat} (hi : i < hs.length) : okS (goM m hs i) (goH m hs i) := by
 have hm : rd_T29 hs (i : Int) ∈ hs := rdH_mem hs _ (by omega) (by omega)
 obtain ⟨a, b⟩ := stepV_ok m _ h.1 (h.2.2 _ hm)
 refine ⟨a, by unfold goH; rw [List.length_set]; exact h.2.1, fun x hx => ?_⟩
 rcases List.mem_or_eq_of_mem_set hx with hx | rfl
 ·exact h.2.2 x hx
 ·exact b
def runFrom (hs : List Hh) (i : Nat) : List Nat := ((List.range hs.length).drop i).filter fun j => decide ((rd_T29 hs (j : Int)).f2 = 0)
theorem runFrom_end (hs : List Hh) (i : Nat) (h : hs.length ≤ i) : runFrom hs i = [] := by
 unfold runFrom; rw [List.drop_of_length_le (by rw [List.length_range]; exact h)]; rfl
theorem runFrom_step (hs : List Hh) (i : Nat) (h : i < hs.length) : runFrom hs i = if (rd_T29 hs (i : Int)).f2 = 0 then i :: runFrom hs (i + 1) else runFrom hs (i + 1) := by
 unfold runFrom
 rw [List.drop_eq_getElem_cons (by rw [List.length_range]; exact h), List.getElem_range, List.filter_cons]
 by_cases c : (rd_T29 hs (i : Int)).f2 = 0
 ·rw [if_pos (decide_eq_true c), if_pos c]
 ·rw [if_neg (by simpa using c), if_neg c]
def endF (out : List (List Int)) (m : List Int) (hs : List Hh) (n i : Nat) (mv : Bool) : List (List Int) :=
 if mv = true ∨ runFrom hs i ≠ [] then addAll out ((runFrom hs i).flatMap fun j => leaves n (goM m hs j) (goH m hs j)) else addL out m
theorem leaves_24 : ∀ (n : Nat) (m : List Int) (hs : List Hh), okS m hs → ∀ x ∈ leaves n m hs, x.length = 24
 | 0, m, hs, h, x, hx => by rw [leaves, List.mem_singleton] at hx; rw [hx]; exact wordsB_24 h.1
 | n + 1, m, hs, h, x, hx => by
  rw [leaves] at hx
  split at hx
  ·rw [List.mem_singleton] at hx; rw [hx]; exact wordsB_24 h.1
  ·obtain ⟨i, hi, hx⟩ := List.mem_flatMap.1 hx
   have hl : i < hs.length := List.mem_range.1 (List.mem_filter.1 hi).1
   exact leaves_24 n _ _ (okS_go h hl) x hx
theorem addL_all {p : List Int → Prop} {out : List (List Int)} {x : List Int} (h : ∀ y ∈ out, p y) (hx : p x) : ∀ y ∈ addL out x, p y := by
 unfold addL
 split
 ·exact h
 ·intro y hy
  rcases List.mem_append.1 hy with hy | hy
  ·exact h y hy
  ·rw [List.mem_singleton.1 hy]; exact hx
theorem addAll_all {p : List Int → Prop} (ls : List (List Int)) : ∀ {out : List (List Int)}, (∀ y ∈ out, p y) → (∀ y ∈ ls, p y) → ∀ y ∈ addAll out ls, p y := by
 induction ls with
 | nil => exact fun h _ => h
 | cons x ls ih => exact fun h hl => ih (addL_all h (hl x (List.mem_cons_self ..))) (fun y hy => hl y (List.mem_cons_of_mem _ hy))
theorem endF_zero (out : List (List Int)) (m : List Int) (hs : List Hh) (n : Nat) : endF out m hs n 0 false = addAll out (leaves (n + 1) m hs) := by
 unfold endF
 rw [leaves]
 have e : runFrom hs 0 = runIx hs := by unfold runFrom runIx; rw [List.drop_zero]
 rw [e]
 by_cases c : runIx hs = []
 ·rw [if_neg (by simp [c]), if_pos c]; rfl
 ·rw [if_pos (.inr c), if_neg c]
theorem endF_full {out : List (List Int)} (h : 40 ≤ out.length) (m : List Int) (hs : List Hh) (n i : Nat) (mv : Bool) : endF out m hs n i mv = out := by
 unfold endF
 split
 ·exact addAll_full h _
 ·exact addL_full h _
theorem endF_skip {out : List (List Int)} {m : List Int} {hs : List Hh} {n i : Nat} {mv : Bool} (hi : i < hs.length) (h : ¬ (rd_T29 hs (i : Int)).f2 = 0) : endF out m hs n (i + 1) mv = endF out m hs n i mv := by
 unfold endF; rw [runFrom_step hs i hi, if_neg h]
theorem endF_go {out : List (List Int)} {m : List Int} {hs : List Hh} {n i : Nat} {mv : Bool} (hi : i < hs.length) (h : (rd_T29 hs (i : Int)).f2 = 0) : endF (addAll out (leaves n (goM m hs i) (goH m hs i))) m hs n (i + 1) true = endF out m hs n i mv := by
 unfold endF
 rw [runFrom_step hs i hi, if_pos h, if_pos (.inl rfl), if_pos (.inr (by simp)), List.flatMap_cons, addAll_app]
theorem endF_end {out : List (List Int)} {m : List Int} {hs : List Hh} {n i : Nat} (mv : Bool) (hi : hs.length ≤ i) : endF out m hs n i mv = if mv = true then out else addL out m := by
 unfold endF
 rw [runFrom_end hs i hi]
 cases mv with
 | true => rw [if_pos (.inl rfl), if_pos rfl]; rfl
 | false => rw [if_neg (by simp), if_neg (by simp)]
theorem findR_has {p : List Int → Option Bool} {m : List Int} : ∀ (l : List (List Int)) (i : Nat), (∀ a ∈ l, p a = some (decide (a = m))) → ∃ j : Int, findR p l i = some j ∧ (j ≥ 0 ↔ m ∈ l)
 | [], i, _ => ⟨-1, rfl, by simp⟩
 | c :: r, i, h => by
  rw [findR, h c (List.mem_cons_self ..), Option.bind_some]
  by_cases e : c = m
  ·rw [if_pos (decide_eq_true e)]; exact ⟨i, rfl, by simp [e]⟩
  ·rw [if_neg (by simpa using e)]
   obtain ⟨j, h1, h2⟩ := findR_has r (i + 1) (fun a ha => h a (List.mem_cons_of_mem _ ha))
   exact ⟨j, h1, h2.trans (by simp [Ne.symm e])⟩
theorem l29Same_eq (a b : List Int) (ha : a.length ≤ 2097152) (hb : b.length ≤ 2097152) (k : Nat) (hk : 5000000 < k) : spec_l29Same.f k a b = some (decide (a = b)) := by
 have go : ∀ (d i k : Nat), i + d = a.length → i ≤ b.length → (∀ j, j < i → rd a (j : Int) = rd b (j : Int)) → 2 * d + 2 < k → spec_l29Same.l0 k a b (i : Int) = some (decide (a = b)) := by
  intro d
  induction d with
  | zero =>
   intro i k hi hib hj hk
   obtain ⟨k, rfl⟩ : ∃ q, k = q + 2 := ⟨k - 2, by omega⟩
   rw [spec_l29Same.l0, if_neg (by omega), spec_l29Same.j1, if_neg (by simp)]
   refine congrArg some ?_
   rw [Bool.eq_iff_iff, beq_iff_eq, decide_eq_true_iff]
   constructor
   ·intro h
    exact (eq_iff_all a b (by omega)).2 (fun j hj' => hj j (by omega))
   ·rintro rfl; rfl
  | succ d ih =>
   intro i k hi hib hj hk
   obtain ⟨k, rfl⟩ : ∃ q, k = q + 2 := ⟨k - 2, by omega⟩
   rw [spec_l29Same.l0, if_pos (by omega)]
   by_cases c : i < b.length
   ·rw [decide_eq_true (by omega : (i : Int) < (b.length : Int)), spec_l29Same.j1, if_pos rfl, if_pos (by omega), if_pos (by omega), if_pos (by omega)]
    by_cases e : rd a (i : Int) = rd b (i : Int)
    ·rw [if_pos e, wrap_succ (by omega)]
     exact ih (i + 1) k (by omega) (by omega) (fun j hj' => by
      rcases Nat.lt_or_ge j i with q | q
      ·exact hj j q
      ·rw [show j = i by omega]; exact e) (by omega)
    ·rw [if_neg e]
     refine congrArg some (Eq.symm (decide_eq_false ?_))
     rintro rfl; exact e rfl
   ·rw [decide_eq_false (by omega), spec_l29Same.j1, if_neg (by simp)]
    refine congrArg some ?_
    rw [Bool.eq_iff_iff, beq_iff_eq, decide_eq_true_iff]
    constructor
    ·intro h; omega
    ·rintro rfl; rfl
 exact go a.length 0 k (by omega) (Nat.zero_le _) (fun j hj => absurd hj (Nat.not_lt_zero _)) (by omega)
theorem slEqual_eq (a b : List Int) (ha : a.length ≤ 2097152) (k : Nat) (hk : 2200000 < k) : slices_Equal_int_int.f k a b = some (decide (a = b)) := by
 unfold slices_Equal_int_int.f
 by_cases hl : (a.length : Int) = (b.length : Int)
 ·rw [if_pos hl]
  refine for_all (L := fun k i => slices_Equal_int_int.l0 k a b (a.length : Int) (i : Int)) (n := a.length) (fun j => rd a (j : Int) = rd b (j : Int)) ?_ ?_ true ?_ ?_ k (by omega)
  ·intro k i hi hp
   simp only [slices_Equal_int_int.l0]
   rw [if_pos (by omega), if_pos (by omega), if_pos (by omega), if_pos (by omega), if_pos hp, wrap_succ (by omega)]
  ·intro k i hi hp
   simp only [slices_Equal_int_int.l0]
   rw [if_pos (by omega), if_pos (by omega), if_pos (by omega), if_pos (by omega), if_neg hp]
  ·intro k
   simp only [slices_Equal_int_int.l0]
   rw [if_neg (by omega)]
  ·rw [decide_eq_true_iff, eq_iff_all a b (by omega)]
   exact ⟨fun h => ⟨h, rfl⟩, fun h => h.1⟩
 ·rw [if_neg hl, decide_eq_false (by rintro rfl; exact hl rfl)]
theorem flatV_go (m : List Int) (h : Hh) (hm : wordsB m 24 = true) (hh : hB h = true) (hr : h.f2 = 0) : flatV m h = stepV m h := by
 unfold flatV goB
 rw [if_pos ⟨hm, by rw [hh, hr]; rfl⟩]
theorem l29_end (out : List (List Int)) (m : List Int) (k : Nat) (hk : 5000000 < k) (hm : m.length = 24) (ho : ∀ x ∈ out, x.length = 24) :
  (if false = true ∨ 40 ≤ out.length then some out else (findR (fun a => spec_l29Same.f k a m) out 0).bind fun j => if j ≥ 0 then some out else some (out ++ [m])) = some (addL out m) := by
 obtain ⟨j, hj, hi⟩ := findR_has (p := fun a => spec_l29Same.f k a m) (m := m) out 0 (fun a ha => l29Same_eq a m (by have := ho a ha; omega) (by omega) k hk)
 unfold addL
 by_cases c : 40 ≤ out.length
 ·rw [if_pos (.inr c), if_pos (.inl c)]
 ·rw [if_neg (by simp; omega), hj, Option.bind_some]
  by_cases e : m ∈ out
  ·rw [if_pos (hi.2 e), if_pos (.inr e)]
  ·rw [if_neg (fun h => e (hi.1 h)), if_neg (not_or.2 ⟨c, e⟩)]
theorem okS_short {m : List Int} {hs : List Hh} (h : okS m hs) (i : Nat) (hi : i < hs.length) : hB (rd_T29 hs (i : Int)) = true ∧ (rd_T29 hs (i : Int)).f0.length = 4 := by
 have := h.2.2 _ (rdH_mem hs (i : Int) (by omega) (by omega))
 exact ⟨this, hartB_len this⟩
theorem spec29_eq : ∀ (n : Nat), n ≤ 12 → ∀ (m : List Int) (hs : List Hh) (out : List (List Int)) (k : Nat), okS m hs → out.length ≤ 40 → (∀ x ∈ out, x.length = 24) → 6000000 + 6 * n + 6 ≤ k → spec_l29Go.f k out m hs (n : Int) = some (addAll out (leaves n m hs)) := by
 intro n
 induction n with
 | zero =>
  intro _ m hs out k ok ho h24 hk
  obtain ⟨k, rfl⟩ : ∃ q, k = q + 2 := ⟨k - 2, by omega⟩
  have lm := wordsB_24 ok.1
  have lh := ok.2.1
  rw [spec_l29Go.f, if_pos ⟨by omega, by omega, by omega⟩, spec_l29Go.l0, if_pos (by omega), if_neg (fun h => by have := h.2; omega), l29_end out m k (by omega) lm h24]
  rfl
 | succ n ih =>
  intro hn m hs out k ok ho h24 hk
  obtain ⟨k, rfl⟩ : ∃ q, k = q + 1 := ⟨k - 1, by omega⟩
  have lm := wordsB_24 ok.1
  have lh := ok.2.1
  have go : ∀ (d i : Nat) (out : List (List Int)) (mv : Bool) (k : Nat), i + d = hs.length → out.length ≤ 40 → (∀ x ∈ out, x.length = 24) → 6000000 + 6 * n + 6 + d + 1 ≤ k → spec_l29Go.l0 k out m hs ((n + 1 : Nat) : Int) mv i = some (endF out m hs n i mv) := by
   intro d
   induction d with
   | zero =>
    intro i out mv k hi ho h24 hk
    obtain ⟨k, rfl⟩ : ∃ q, k = q + 1 := ⟨k - 1, by omega⟩
    rw [spec_l29Go.l0, if_pos (by omega), if_neg (fun h => by have := h.1; omega), endF_end mv (by omega)]
    cases mv with
    | true => rw [if_pos (.inl rfl), if_pos rfl]
    | false => rw [l29_end out m k (by omega) lm h24, if_neg (by simp)]
   | succ d ihd =>
    intro i out mv k hi ho h24 hk
    obtain ⟨k, rfl⟩ : ∃ q, k = q + 1 := ⟨k - 1, by omega⟩
    have hil : i < hs.length := by omega
    obtain ⟨hb, l4⟩ := okS_short ok i hil
    rw [spec_l29Go.l0, if_pos (by omega), if_pos ⟨hil, by omega⟩]
    by_cases c : (rd_T29 hs (i : Int)).f2 = 0 ∧ out.length < 40
    ·rw [if_pos c, specFlatStep_eq m _ (by omega) (by omega) k (by omega), Option.bind_some, flatV_go m _ ok.1 hb c.1]
     dsimp only
     have e := ih (by omega) (goM m hs i) (goH m hs i) out k (okS_go ok hil) ho h24 (by omega)
     have e2 : wrap64 (((n + 1 : Nat) : Int) - 1) = (n : Int) := by rw [wrap_small (by omega) (by omega)]; omega
     rw [e2]
     have e3 : spec_l29Go.f k out (stepV m (rd_T29 hs (i : Int))).1 (hs.set i (stepV m (rd_T29 hs (i : Int))).2) (n : Int) = some (addAll out (leaves n (goM m hs i) (goH m hs i))) := e
     rw [e3, Option.bind_some, ihd (i + 1) _ true k (by omega) ((addAll_len _ _).2 ho) (addAll_all _ h24 (leaves_24 n _ _ (okS_go ok hil))) (by omega)]
     exact congrArg some (endF_go hil c.1)
    ·rw [if_neg c, ihd (i + 1) out mv k (by omega) ho h24 (by omega)]
     by_cases c0 : (rd_T29 hs (i : Int)).f2 = 0
     ·have h40 : 40 ≤ out.length := by omega
      rw [endF_full h40, endF_full h40]
     ·rw [endF_skip hil c0]
  rw [spec_l29Go.f, if_pos ⟨by omega, by omega, by omega⟩, go hs.length 0 out false k (by omega) ho h24 (by omega), endF_zero]
def endsV (m : List Int) (hs : List Hh) (n : Int) : List (List Int) := if wordsB m 24 = true ∧ hs.length ≤ 3 ∧ (0 ≤ n ∧ n ≤ 12) ∧ hs.all hB = true then addAll [] (leaves n.toNat m hs) else []
theorem specEnds2_l0 (hs : List Hh) (hl : hs.length ≤ 2097152) (hx : ∀ h ∈ hs, h.f0.length ≤ 1048576) : ∀ (d i k : Nat), i + d = hs.length → 1048600 + d < k → spec_Ends2.l0 k hs i = some ((hs.drop i).all hB) := by
 intro d
 induction d with
 | zero =>
  intro i k hi hk
  obtain ⟨k, rfl⟩ : ∃ q, k = q + 1 := ⟨k - 1, by omega⟩
  rw [spec_Ends2.l0, if_neg (by omega), List.drop_of_length_le (by omega)]; rfl
 | succ d ih =>
  intro i k hi hk
  obtain ⟨k, rfl⟩ : ∃ q, k = q + 1 := ⟨k - 1, by omega⟩
  have hil : i < hs.length := by omega
  have h1 := hx _ (List.getElem_mem hil)
  rw [spec_Ends2.l0, if_pos hil, rdH hs i hil, specHartOk_eq _ _ _ (by omega) k (by omega), Option.bind_some, List.drop_eq_getElem_cons hil, List.all_cons]
  by_cases c : hartB hs[i].f0 hs[i].f1 hs[i].f2 = true
  ·rw [if_pos c, ih (i + 1) k (by omega) (by omega), show hB hs[i] = true from c, Bool.true_and]
  ·rw [if_neg c, show hB hs[i] = false from Bool.eq_false_iff.mpr (fun h => c h), Bool.false_and]
theorem specEnds2_eq (m : List Int) (hs : List Hh) (n : Int) (hm : m.length ≤ 1048576) (hl : hs.length ≤ 1048576) (hx : ∀ h ∈ hs, h.f0.length ≤ 1048576) (k : Nat) (hk : 7000000 < k) : spec_Ends2.f k m hs n = some (endsV m hs n) := by
 unfold spec_Ends2.f endsV
 rw [if_pos (by omega), specEnds2_l0 hs (by omega) hx hs.length 0 k (by omega) (by omega), List.drop_zero, Option.bind_some]
 by_cases ca : hs.all hB = true
 ·rw [if_pos ca, l1Words_eq m 24 (by omega) k (by omega), Option.bind_some]
  by_cases cm : wordsB m 24 = true
  ·rw [if_pos cm]
   by_cases c3 : (hs.length : Int) > 3
   ·rw [if_pos c3, if_neg (fun h => by have := h.2.1; omega)]
   ·rw [if_neg c3, l1In_eq, Option.bind_some]
    by_cases cn : 0 ≤ n ∧ n ≤ 12
    ·rw [if_pos (decide_eq_true cn), if_pos ⟨cm, by omega, cn, ca⟩]
     have e := spec29_eq n.toNat (by omega) m hs [] k ⟨cm, by omega, fun h hh => List.all_eq_true.1 ca h hh⟩ (by simp) (by simp) (by omega)
     rwa [Int.toNat_of_nonneg cn.1] at e
    ·rw [if_neg (by simpa using cn), if_neg (fun h => cn h.2.2.1)]
  ·rw [if_neg cm, if_neg (fun h => cm h.1)]
 ·rw [if_neg ca, if_neg (fun h => ca h.2.2.2)]
theorem twoB_inj : ∀ (a b : List Int), (∀ x ∈ a, 0 ≤ x ∧ x ≤ 65535) → (∀ x ∈ b, 0 ≤ x ∧ x ≤ 65535) → twoB a = twoB b → a = b
 | [], [], _, _, _ => rfl
 | [], y :: b, _, _, h => by simp [twoB] at h
 | x :: a, [], _, _, h => by simp [twoB] at h
 | x :: a, y :: b, ha, hb, h => by
  have h' : x / 256 % 256 :: x % 256 :: twoB a = y / 256 % 256 :: y % 256 :: twoB b := h
  injection h' with h1 h'
  injection h' with h2 h3
  have hx := ha x (List.mem_cons_self ..)
  have hy := hb y (List.mem_cons_self ..)
  rw [twoB_inj a b (fun z hz => ha z (List.mem_cons_of_mem _ hz)) (fun z hz => hb z (List.mem_cons_of_mem _ hz)) h3, show x = y by omega]
theorem hBy_inj {h h' : Hh} (c : hOk h = true) (c' : hOk h' = true) (e : hBy h = hBy h') : h = h' := by
 obtain ⟨p1, p2, p3, p4⟩ := hartB_parts c
 obtain ⟨q1, q2, q3, q4⟩ := hartB_parts c'
 unfold hBy at e
 obtain ⟨e1, e2⟩ := List.append_inj e (by rw [twoB_length, twoB_length, p1, q1])
 have e3 := twoB_inj _ _ p2 q2 e1
 injection e2 with e4 e5
 injection e5 with e5 _
 obtain ⟨a, b, s⟩ := h
 obtain ⟨a', b', s'⟩ := h'
 dsimp only at *
 obtain rfl : b = b' := by omega
 obtain rfl : s = s' := by omega
 rw [e3]
theorem hsBy_inj : ∀ (a b : List Hh), (∀ h ∈ a, hOk h = true) → (∀ h ∈ b, hOk h = true) → a.flatMap hBy = b.flatMap hBy → a = b
 | [], [], _, _, _ => rfl
 | [], y :: b, _, hb, h => by
  have := congrArg List.length h
  rw [List.flatMap_cons, List.length_append, hBy_length y (hb y (List.mem_cons_self ..))] at this
  simp at this <;> omega
 | x :: a, [], ha, _, h => by
  have := congrArg List.length h
  rw [List.flatMap_cons, List.length_append, hBy_length x (ha x (List.mem_cons_self ..))] at this
  simp at this <;> omega
 | x :: a, y :: b, ha, hb, h => by
  rw [List.flatMap_cons, List.flatMap_cons] at h
  have hx := ha x (List.mem_cons_self ..)
  have hy := hb y (List.mem_cons_self ..)
  obtain ⟨e1, e2⟩ := List.append_inj h (by rw [hBy_length x hx, hBy_length y hy])
  rw [hBy_inj hx hy e1, hsBy_inj a b (fun z hz => ha z (List.mem_cons_of_mem _ hz)) (fun z hz => hb z (List.mem_cons_of_mem _ hz)) e2]
theorem saveB_of {m : List Int} {hs : List Hh} (h : okS m hs) : saveB m hs = ((hs.length : Int) % 256) :: (twoB m ++ hs.flatMap hBy) := by
 unfold saveB
 have lh := h.2.1
 rw [if_pos ⟨h.1, by omega, List.all_eq_true.2 h.2.2⟩]
theorem hsBy_len : ∀ (hs : List Hh), (∀ h ∈ hs, hOk h = true) → (hs.flatMap hBy).length = 10 * hs.length
 | [], _ => rfl
 | x :: a, h => by
  rw [List.flatMap_cons, List.length_append, hBy_length x (h x (List.mem_cons_self ..)), hsBy_len a (fun z hz => h z (List.mem_cons_of_mem _ hz)), List.length_cons]; omega
theorem saveB_short {m : List Int} {hs : List Hh} (h : okS m hs) : (saveB m hs).length ≤ 100 := by
 have lh := h.2.1
 rw [saveB_of h, List.length_cons, List.length_append, twoB_length, wordsB_24 h.1, hsBy_len hs h.2.2]; omega
theorem saveB_by {m : List Int} {hs : List Hh} (h : okS m hs) : ∀ x ∈ saveB m hs, 0 ≤ x ∧ x < 256 := by
 intro x hx
 rw [saveB_of h] at hx
 have two : ∀ l : List Int, x ∈ twoB l → 0 ≤ x ∧ x < 256 := by
  intro l hl
  obtain ⟨y, _, hy⟩ := List.mem_flatMap.1 hl
  simp only [List.mem_cons, List.not_mem_nil, or_false] at hy
  omega
 rcases List.mem_cons.1 hx with rfl | hx
 ·omega
 rcases List.mem_append.1 hx with hx | hx
 ·exact two m hx
 ·obtain ⟨y, _, hy⟩ := List.mem_flatMap.1 hx
  unfold hBy at hy
  rcases List.mem_append.1 hy with hy | hy
  ·exact two _ hy
  ·simp only [List.mem_cons, List.not_mem_nil, or_false] at hy
   omega
theorem saveB_inj {m m' : List Int} {hs hs' : List Hh} (h : okS m hs) (h' : okS m' hs') (e : saveB m hs = saveB m' hs') : m = m' ∧ hs = hs' := by
 rw [saveB_of h, saveB_of h'] at e
 injection e with _ e
 obtain ⟨e1, e2⟩ := List.append_inj e (by rw [twoB_length, twoB_length, wordsB_24 h.1, wordsB_24 h'.1])
 exact ⟨twoB_inj _ _ (fun x hx => wordsB_mem h.1 x hx) (fun x hx => wordsB_mem h'.1 x hx) e1, hsBy_inj _ _ h.2.2 h'.2.2 e2⟩
theorem byte_inj : ∀ (a b : List Int), (∀ x ∈ a, 0 ≤ x ∧ x < 256) → (∀ x ∈ b, 0 ≤ x ∧ x < 256) → a.map (fun n => UInt8.ofNat n.toNat) = b.map (fun n => UInt8.ofNat n.toNat) → a = b
 | [], [], _, _, _ => rfl
 | [], _ :: _, _, _, h => by cases h
 | _ :: _, [], _, _, h => by cases h
 | x :: a, y :: b, ha, hb, h => by
  rw [List.map_cons, List.map_cons] at h
  injection h with h1 h2
  have hx := ha x (List.mem_cons_self ..)
  have hy := hb y (List.mem_cons_self ..)
  have h3 := congrArg UInt8.toNat h1
  rw [UInt8.toNat_ofNat', UInt8.toNat_ofNat'] at h3
  rw [byte_inj a b (fun z hz => ha z (List.mem_cons_of_mem _ hz)) (fun z hz => hb z (List.mem_cons_of_mem _ hz)) h2, show x = y by omega]
theorem enc_small (n : Nat) (h : n ≤ 12) : (Go.Utf8.encode (wrap32 (n : Int))).data.toList = [UInt8.ofNat n] := by
 have e : wrap32 (n : Int) = (n : Int) := by unfold wrap32; omega
 rw [e]
 have hc : n = 0 ∨ n = 1 ∨ n = 2 ∨ n = 3 ∨ n = 4 ∨ n = 5 ∨ n = 6 ∨ n = 7 ∨ n = 8 ∨ n = 9 ∨ n = 10 ∨ n = 11 ∨ n = 12 := by omega
 rcases hc with rfl | rfl | rfl | rfl | rfl | rfl | rfl | rfl | rfl | rfl | rfl | rfl | rfl <;> simp [Go.Utf8.encode, Go.Utf8.valid]
def keyK (m : List Int) (hs : List Hh) (n : Nat) : List UInt8 := (keyN (saveB m hs) (n : Int)).data.toList
theorem keyK_of (m : List Int) (hs : List Hh) (n : Nat) (hn : n ≤ 12) : keyK m hs n = (saveB m hs).map (fun n => UInt8.ofNat n.toNat) ++ [UInt8.ofNat n] := by
 unfold keyK keyN
 rw [ByteArray.data_append, Array.toList_append, enc_small n hn]
 rfl
theorem keyN_size {m : List Int} {hs : List Hh} (h : okS m hs) (n : Nat) (hn : n ≤ 12) : (keyN (saveB m hs) (n : Int)).size ≤ 1000 := by
 have e := congrArg List.length (keyK_of m hs n hn)
 have l := saveB_short h
 unfold keyK at e
 rw [List.length_append, List.length_map, List.length_singleton, Array.length_toList] at e
 show (keyN (saveB m hs) (n : Int)).data.size ≤ 1000
 omega
theorem keyK_inj {m m' : List Int} {hs hs' : List Hh} {n n' : Nat} (h : okS m hs) (h' : okS m' hs') (hn : n ≤ 12) (hn' : n' ≤ 12) (e : keyK m hs n = keyK m' hs' n') : m = m' ∧ hs = hs' ∧ n = n' := by
 rw [keyK_of m hs n hn, keyK_of m' hs' n' hn'] at e
 obtain ⟨e1, e2⟩ := List.append_inj' e rfl
 obtain ⟨f1, f2⟩ := saveB_inj h h' (byte_inj _ _ (saveB_by h) (saveB_by h') e1)
 injection e2 with e2 _
 have e3 := congrArg UInt8.toNat e2
 rw [UInt8.toNat_ofNat', UInt8.toNat_ofNat'] at e3
 exact ⟨f1, f2, by omega⟩
def DoneF (been : List (List UInt8)) (ends : List (List Int)) (n : Nat) : Prop := ∀ (m : List Int) (hs : List Hh) (n' : Nat), okS m hs → n' ≤ n → keyK m hs n' ∈ been → absL ends (leaves n' m hs)
def KeysF (been been' : List (List UInt8)) (n : Nat) : Prop := (∀ x ∈ been, x ∈ been') ∧ ∀ x ∈ been', x ∈ been ∨ ∃ (m : List Int) (hs : List Hh) (n' : Nat), okS m hs ∧ n' ≤ n ∧ x = keyK m hs n'
theorem KeysF.refl (been : List (List UInt8)) (n : Nat) : KeysF been been n := ⟨fun _ h => h, fun _ h => .inl h⟩
theorem KeysF.trans {a b c : List (List UInt8)} {n : Nat} (h : KeysF a b n) (k : KeysF b c n) : KeysF a c n := ⟨fun x hx => k.1 x (h.1 x hx), fun x hx => (k.2 x hx).elim (h.2 x) .inr⟩
theorem DoneF.mono {been : List (List UInt8)} {ends : List (List Int)} {n : Nat} (h : DoneF been ends n) (ls : List (List Int)) : DoneF been (addAll ends ls) n := fun m hs n' a b c => absL_mono ls (h m hs n' a b c)
theorem pow_step (n : Nat) : 3 * 4 ^ n + 1 ≤ 4 ^ (n + 1) := by
 have : 0 < 4 ^ n := Nat.pow_pos (by decide)
 rw [Nat.pow_succ]; omega
theorem find_end (been : List (List UInt8)) (ends : List (List Int)) (m : List Int) (k : Nat) (hk : 5000000 < k) (hm : m.length = 24) (h40 : ends.length ≤ 40) (ho : ∀ x ∈ ends, x.length = 24) :
  (if ends.length < 40 then (findR (fun a => slices_Equal_int_int.f k a m) ends 0).bind fun j => if j ≥ 0 then some (been, ends) else some (been, ends ++ [m]) else some (been, ends)) = some (been, addL ends m) := by
 obtain ⟨j, hj, hi⟩ := findR_has (p := fun a => slices_Equal_int_int.f k a m) (m := m) ends 0 (fun a ha => slEqual_eq a m (by have := ho a ha; omega) k (by omega))
 unfold addL
 by_cases c : ends.length < 40
 ·rw [if_pos c, hj, Option.bind_some]
  by_cases e : m ∈ ends
  ·rw [if_pos (hi.2 e), if_pos (.inr e)]
  ·rw [if_neg (fun h => e (hi.1 h)), if_neg (not_or.2 ⟨by omega, e⟩)]
 ·rw [if_neg c, if_pos (.inl (by omega))]
theorem implFind_eq : ∀ (n : Nat), n ≤ 12 → ∀ (m : List Int) (hs : List Hh) (been : List (List UInt8)) (ends : List (List Int)) (k : Nat), okS m hs → ends.length ≤ 40 → (∀ x ∈ ends, x.length = 24) → been.length + 4 ^ n ≤ 500000000 → DoneF been ends n → 6000000 + 6 * n + 6 ≤ k →
  ∃ been', impl_find.f k been ends m hs (n : Int) = some (been', addAll ends (leaves n m hs)) ∧ been'.length ≤ been.length + 4 ^ n ∧ KeysF been been' n ∧ DoneF been' (addAll ends (leaves n m hs)) n := by
 intro n
 induction n with
 | zero =>
  intro _ m hs been ends k ok ho h24 hb hd hk
  obtain ⟨k, rfl⟩ : ∃ q, k = q + 1 := ⟨k - 1, by omega⟩
  have lm := wordsB_24 ok.1
  have lh := ok.2.1
  have sk : ∀ (d i k : Nat) (been : List (List UInt8)), i + d = hs.length → 5000002 + d < k → impl_find.l0 k been ends m hs ((0 : Nat) : Int) false i = some (been, addL ends m) := by
   intro d
   induction d with
   | zero =>
    intro i k been hi hk
    obtain ⟨k, rfl⟩ : ∃ q, k = q + 1 := ⟨k - 1, by omega⟩
    rw [impl_find.l0, if_neg (by omega), if_neg (by simp)]
    exact find_end been ends m k (by omega) lm ho h24
   | succ d ihd =>
    intro i k been hi hk
    obtain ⟨k, rfl⟩ : ∃ q, k = q + 1 := ⟨k - 1, by omega⟩
    rw [impl_find.l0, if_pos (by omega), if_pos (by omega)]
    exact ihd (i + 1) k been (by omega) (by omega)
  rw [impl_find.f]
  by_cases c40 : ends.length = 40
  ·rw [if_pos c40, addAll_full (by omega)]
   exact ⟨been, rfl, by omega, KeysF.refl _ _, hd⟩
  ·rw [if_neg c40, if_pos ⟨by omega, by omega, by omega, ho⟩, implSaveBytes_eq m hs (by omega) (fun h hh => by have := hartB_len (ok.2.2 h hh); omega) (by omega) k (by omega), Option.bind_some, if_pos (keyN_size ok 0 (by omega)), show (keyN (saveB m hs) ((0 : Nat) : Int)).data.toList = keyK m hs 0 from rfl]
   by_cases hin : keyK m hs 0 ∈ been
   ·rw [if_pos hin, addAll_of _ (hd m hs 0 ok (Nat.le_refl _) hin)]
    exact ⟨been, rfl, by omega, KeysF.refl _ _, hd⟩
   ·rw [if_neg hin, sk hs.length 0 k _ (by omega) (by omega)]
    refine ⟨_, rfl, by rw [List.length_cons]; omega, ⟨fun x hx => List.mem_cons_of_mem _ hx, fun x hx => ?_⟩, ?_⟩
    ·rcases List.mem_cons.1 hx with rfl | hx
     ·exact .inr ⟨m, hs, 0, ok, Nat.le_refl _, rfl⟩
     ·exact .inl hx
    ·intro m' hs' n' ok' hn' hin'
     rcases List.mem_cons.1 hin' with e | hin'
     ·obtain ⟨rfl, rfl, rfl⟩ := keyK_inj ok' ok (by omega) (by omega) e
      exact absL_all _ _
     ·exact hd.mono _ m' hs' n' ok' hn' hin'
 | succ n ih =>
  intro hn m hs been ends k ok ho h24 hb hd hk
  obtain ⟨k, rfl⟩ : ∃ q, k = q + 1 := ⟨k - 1, by omega⟩
  have lm := wordsB_24 ok.1
  have lh := ok.2.1
  have hp := pow_step n
  have go : ∀ (d i : Nat) (been : List (List UInt8)) (ends : List (List Int)) (mv : Bool) (k : Nat), i + d = hs.length → ends.length ≤ 40 → (∀ x ∈ ends, x.length = 24) → been.length + d * 4 ^ n ≤ 500000000 → DoneF been ends n → 6000000 + 6 * n + 6 + d + 1 ≤ k →
    ∃ been', impl_find.l0 k been ends m hs ((n + 1 : Nat) : Int) mv i = some (been', endF ends m hs n i mv) ∧ been'.length ≤ been.length + d * 4 ^ n ∧ KeysF been been' n ∧ DoneF been' (endF ends m hs n i mv) n := by
   intro d
   induction d with
   | zero =>
    intro i been ends mv k hi ho h24 hb hd hk
    obtain ⟨k, rfl⟩ : ∃ q, k = q + 1 := ⟨k - 1, by omega⟩
    rw [impl_find.l0, if_neg (by omega), endF_end mv (by omega)]
    cases mv with
    | true => rw [if_pos rfl, if_pos rfl]; exact ⟨been, rfl, by omega, KeysF.refl _ _, hd⟩
    | false =>
     rw [if_neg (by simp), find_end been ends m k (by omega) lm ho h24, if_neg (by simp)]
     exact ⟨been, rfl, by omega, KeysF.refl _ _, hd.mono [m]⟩
   | succ d ihd =>
    intro i been ends mv k hi ho h24 hb hd hk
    obtain ⟨k, rfl⟩ : ∃ q, k = q + 1 := ⟨k - 1, by omega⟩
    have hil : i < hs.length := by omega
    have hmem : rd_T29 hs (i : Int) ∈ hs := rdH_mem hs _ (by omega) (by omega)
    rw [Nat.succ_mul] at hb
    rw [impl_find.l0, if_pos hil, if_neg (by omega)]
    by_cases c : (rd_T29 hs (i : Int)).f2 = 0
    ·rw [if_pos c, implStep_eq m _ lm (ok.2.2 _ hmem) k (by omega), Option.bind_some]
     dsimp only
     obtain ⟨b1, e1, l1, k1, d1⟩ := ih (by omega) (goM m hs i) (goH m hs i) been ends k (okS_go ok hil) ho h24 (by omega) hd (by omega)
     have e2 : wrap64 (((n + 1 : Nat) : Int) - 1) = (n : Int) := by rw [wrap_small (by omega) (by omega)]; omega
     have e3 : impl_find.f k been ends (stepV m (rd_T29 hs (i : Int))).1 (hs.set i (stepV m (rd_T29 hs (i : Int))).2) (n : Int) = some (b1, addAll ends (leaves n (goM m hs i) (goH m hs i))) := e1
     rw [e2, e3, Option.bind_some]
     dsimp only
     obtain ⟨b2, e4, l2, k2, d2⟩ := ihd (i + 1) b1 _ true k (by omega) ((addAll_len _ _).2 ho) (addAll_all _ h24 (leaves_24 n _ _ (okS_go ok hil))) (by omega) d1 (by omega)
     rw [endF_go hil c (mv := mv)] at e4 d2
     exact ⟨b2, e4, by rw [Nat.succ_mul]; omega, k1.trans k2, d2⟩
    ·rw [if_neg c]
     obtain ⟨b2, e4, l2, k2, d2⟩ := ihd (i + 1) been ends mv k (by omega) ho h24 (by omega) hd (by omega)
     rw [endF_skip hil c] at e4 d2
     exact ⟨b2, e4, by rw [Nat.succ_mul]; omega, k2, d2⟩
  rw [impl_find.f]
  by_cases c40 : ends.length = 40
  ·rw [if_pos c40, addAll_full (by omega)]
   exact ⟨been, rfl, by omega, KeysF.refl _ _, hd⟩
  ·rw [if_neg c40, if_pos ⟨by omega, by omega, by omega, ho⟩, implSaveBytes_eq m hs (by omega) (fun h hh => by have := hartB_len (ok.2.2 h hh); omega) (by omega) k (by omega), Option.bind_some, if_pos (keyN_size ok (n + 1) hn), show (keyN (saveB m hs) ((n + 1 : Nat) : Int)).data.toList = keyK m hs (n + 1) from rfl]
   by_cases hin : keyK m hs (n + 1) ∈ been
   ·rw [if_pos hin, addAll_of _ (hd m hs (n + 1) ok (Nat.le_refl _) hin)]
    exact ⟨been, rfl, by omega, KeysF.refl _ _, hd⟩
   ·rw [if_neg hin]
    have d0 : DoneF (keyK m hs (n + 1) :: been) ends n := by
     intro m' hs' n' ok' hn' hin'
     rcases List.mem_cons.1 hin' with e | hin'
     ·obtain ⟨_, _, e3⟩ := keyK_inj ok' ok (by omega) (by omega) e
      omega
     ·exact hd m' hs' n' ok' (by omega) hin'
    have hd3 : hs.length * 4 ^ n ≤ 3 * 4 ^ n := Nat.mul_le_mul_right _ lh
    obtain ⟨b2, e4, l2, k2, d2⟩ := go hs.length 0 (keyK m hs (n + 1) :: been) ends false k (by omega) ho h24 (by rw [List.length_cons]; omega) d0 (by omega)
    rw [endF_zero] at e4 d2
    rw [List.length_cons] at l2
    refine ⟨b2, e4, by omega, ⟨fun x hx => k2.1 x (List.mem_cons_of_mem _ hx), fun x hx => ?_⟩, ?_⟩
    ·rcases k2.2 x hx with hx | ⟨m', hs', n', a, b, c⟩
     ·rcases List.mem_cons.1 hx with rfl | hx
      ·exact .inr ⟨m, hs, n + 1, ok, Nat.le_refl _, rfl⟩
      ·exact .inl hx
     ·exact .inr ⟨m', hs', n', a, by omega, c⟩
    ·intro m' hs' n' ok' hn' hin'
     by_cases c : n' ≤ n
     ·exact d2 m' hs' n' ok' c hin'
     ·obtain rfl : n' = n + 1 := by omega
      rcases k2.2 _ hin' with hx | ⟨m2, hs2, n2, a, b, e⟩
      ·rcases List.mem_cons.1 hx with e | hx
       ·obtain ⟨rfl, rfl, _⟩ := keyK_inj ok' ok (by omega) (by omega) e
        exact absL_all _ _
       ·exact hd.mono _ m' hs' _ ok' (Nat.le_refl _) hx
      ·obtain ⟨_, _, e3⟩ := keyK_inj ok' a (by omega) (by omega) e
       omega
theorem endsCF_eq (hs : List Hh) (hl : hs.length ≤ 1048576) (hx : ∀ h ∈ hs, h.f0.length ≤ 1048576) (k : Nat) (hk : 3000000 < k) : slices_ContainsFunc_at_impl_Ends2_1.f k hs 0 = some (!(hs.all hB)) := by
 unfold slices_ContainsFunc_at_impl_Ends2_1.f slices_IndexFunc_at_impl_Ends2_1.f
 have hf : ∀ (k : Nat) (h : Hh), h.f0.length ≤ 1048576 → 1048580 < k → impl_Ends2_1.f k h.f0 h.f1 h.f2 = some (!hB h) := fun k h h1 h2 => by
  unfold impl_Ends2_1.f; rw [implHartOk_eq _ _ _ (by omega) k (by omega)]; rfl
 obtain ⟨C, hC⟩ : ∃ C : Nat, C = 1500000 := ⟨_, rfl⟩
 have HH := idx_any (n := hs.length) (fun k i => slices_IndexFunc_at_impl_Ends2_1.l0 (k + C) hs (hs.length : Int) (i : Int)) (fun i => !hB (rd_T29 hs (i : Int))) ?_ ?_ ?_ (!(hs.all hB)) ?_ (k - C) (by omega)
 ·obtain ⟨v, e, hv⟩ := HH
  rw [show k - C + C = k by omega, show ((0 : Nat) : Int) = 0 from rfl] at e
  rw [e, Option.bind_some, hv]
 ·intro k i hi q
  rw [show k + 1 + C = (k + C) + 1 by omega]
  simp only [slices_IndexFunc_at_impl_Ends2_1.l0]
  rw [if_pos (by omega), if_pos (by omega), if_pos (by omega), hf _ _ (hx _ (rdH_mem hs (i : Int) (by omega) (by omega))) (by omega), Option.bind_some, q, if_neg (by simp), wrap_succ (by omega)]
 ·intro k i hi q
  rw [show k + 1 + C = (k + C) + 1 by omega]
  simp only [slices_IndexFunc_at_impl_Ends2_1.l0]
  rw [if_pos (by omega), if_pos (by omega), if_pos (by omega), hf _ _ (hx _ (rdH_mem hs (i : Int) (by omega) (by omega))) (by omega), Option.bind_some, q, if_pos rfl]
 ·intro k
  rw [show k + 1 + C = (k + C) + 1 by omega]
  simp only [slices_IndexFunc_at_impl_Ends2_1.l0]
  rw [if_neg (by omega)]
 ·rw [Bool.not_eq_true', ← Bool.not_eq_true, List.all_eq_true]
  constructor
  ·intro h
   obtain ⟨x, hx2⟩ := Classical.not_forall.1 h
   obtain ⟨hx3, hx4⟩ := Classical.not_imp.1 hx2
   obtain ⟨j, hj, rfl⟩ := List.getElem_of_mem hx3
   exact ⟨j, hj, by rw [rdH hs j hj]; simpa using hx4⟩
  ·rintro ⟨j, hj, h2⟩ h
   have h3 := h _ (rdH_mem hs (j : Int) (by omega) (by omega))
   rw [h3] at h2; cases h2
theorem implEnds2_eq (m : List Int) (hs : List Hh) (n : Int) (hm : m.length ≤ 1048576) (hl : hs.length ≤ 1048576) (hx : ∀ h ∈ hs, h.f0.length ≤ 1048576) (k : Nat) (hk : 7000000 < k) : impl_Ends2.f k m hs n = some (endsV m hs n) := by
 unfold impl_Ends2.f endsV
 rw [memOk_eq m (by omega) k (by omega), Option.bind_some]
 by_cases cm : wordsB m 24 = true
 ·rw [if_pos cm]
  by_cases c3 : (hs.length : Int) > 3
  ·rw [if_pos c3, if_neg (fun h => by have := h.2.1; omega)]
  ·rw [if_neg c3, from_eq, Option.bind_some]
   by_cases cn : 0 ≤ n ∧ n ≤ 12
   ·rw [if_pos (decide_eq_true cn), endsCF_eq hs hl hx k (by omega), Option.bind_some]
    by_cases ca : hs.all hB = true
    ·rw [ca, if_neg (by simp), if_pos ⟨cm, by omega, cn, rfl⟩]
     have hp : 4 ^ n.toNat ≤ 4 ^ 12 := Nat.pow_le_pow_right (by decide) (by omega)
     obtain ⟨b, e, _⟩ := implFind_eq n.toNat (by omega) m hs [] [] k ⟨cm, by omega, fun h hh => List.all_eq_true.1 ca h hh⟩ (by simp) (by simp) (by simp only [List.length_nil]; omega) (fun _ _ _ _ _ h => by cases h) (by omega)
     rw [Int.toNat_of_nonneg cn.1] at e
     rw [e]; rfl
    ·rw [if_pos (by simpa using ca), if_neg (fun h => ca h.2.2.2)]
   ·rw [if_neg (by simpa using cn), if_neg (fun h => cn h.2.2.1)]
 ·rw [if_neg cm, if_neg (fun h => cm h.1)]
theorem endsV_ok (m : List Int) (hs : List Hh) (n : Int) : (endsV m hs n).length ≤ 40 ∧ ∀ x ∈ endsV m hs n, x.length = 24 := by
 unfold endsV
 split
 ·rename_i h
  exact ⟨(addAll_len _ _).2 (by simp), addAll_all _ (by simp) (leaves_24 _ _ _ ⟨h.1, h.2.1, fun x hx => List.all_eq_true.1 h.2.2.2 x hx⟩)⟩
 ·exact ⟨by simp, by simp⟩
def draw29Ok (m : List Int) (hs : List S29) (n : Int) : Prop := wordsB m 24 = true ∧ hs.length ≤ 4 ∧ (∀ h ∈ hs, h.f0.length ≤ 1048576) ∧ -1 ≤ n ∧ n ≤ 13
theorem l29Draw_ex (c : List Int) (i s : Int) (h : curOk c i) (k : Nat) (hk : 1000 < k) : ∃ m hs n i' s', spec_l29Draw.f k c i s = some (m, hs, n, i', s') ∧ draw29Ok m hs n ∧ curOk c i' := by
 unfold spec_l29Draw.f
 obtain ⟨m, hs, o, i1, s1, e1, ⟨q1, q2, q3, _, _⟩, c1⟩ := drawRun_ex c i s h 2 (by omega) k (by omega)
 obtain ⟨v, i2, s2, e2, c2⟩ := l1Once_ex c i1 s1 c1 8 (by omega) (by omega)
 have hx : ∀ x ∈ hs, x.f0.length ≤ 1048576 := fun x hx => by have := hartB_len (q3 x hx); omega
 have pk : ∀ v : Int, v ∈ [0, 1, 2, 3, 4, 5, 13, (-1)] → -1 ≤ v ∧ v ≤ 13 := by
  intro v hv
  simp only [List.mem_cons, List.not_mem_nil, or_false] at hv
  omega
 rw [e1, Option.bind_some]
 dsimp only
 rw [e2, Option.bind_some]
 dsimp only
 cases v with
 | true =>
  obtain ⟨r, p, t, i3, s3, e3, r4, c3⟩ := drawHart_ex c i2 s2 c2 k (by omega)
  obtain ⟨n, i4, s4, e4, hn, c4⟩ := l1PickInt_ex c i3 s3 c3 [0, 1, 2, 3, 4, 5, 13, (-1)] (by simp) (by simp)
  rw [if_pos rfl, e3, Option.bind_some]
  dsimp only
  rw [if_pos (by omega), e4, Option.bind_some]
  refine ⟨_, _, _, _, _, rfl, ⟨q1, by simp; omega, fun x hx' => ?_, pk n hn⟩, c4⟩
  rcases List.mem_append.1 hx' with hx' | hx'
  ·exact hx x hx'
  ·rw [List.mem_singleton.1 hx']; show r.length ≤ _; omega
 | false =>
  obtain ⟨n, i4, s4, e4, hn, c4⟩ := l1PickInt_ex c i2 s2 c2 [0, 1, 2, 3, 4, 5, 13, (-1)] (by simp) (by simp)
  rw [if_neg (by simp), e4, Option.bind_some]
  exact ⟨_, _, _, _, _, rfl, ⟨q1, by omega, hx, pk n hn⟩, c4⟩
theorem drawEnds2_ex (c : List Int) (hc : c.length ≤ 1048576) (k : Nat) (hk : 10000 < k) : ∃ m hs n, spec_DrawEnds2.f k c = some (m, hs, n) ∧ draw29Ok m hs n := by
 unfold spec_DrawEnds2.f
 obtain ⟨i0, s0, e0, c0⟩ := l1New_ex c hc k (by omega)
 obtain ⟨m, hs, n, i1, s1, e1, hd, _⟩ := l29Draw_ex c i0 s0 c0 k (by omega)
 rw [e0, Option.bind_some]
 dsimp only
 rw [e1, Option.bind_some]
 exact ⟨_, _, _, rfl, hd⟩
theorem sameIntsE (a b : List Int) (hl : a.length = b.length) (h1 : a.length ≤ 1000) (k : Nat) (hk : 1002 < k) : laws_sameInts.f k a b = some (decide (a = b)) := by
 unfold laws_sameInts.f
 rw [if_pos (by omega)]
 have key : ∀ (d i k : Nat), i + d = a.length → d < k → laws_sameInts.l0 k a b (i : Int) = some (decide (a.drop i = b.drop i)) := by
  intro d
  induction d with
  | zero =>
   intro i k hi hk
   obtain ⟨k, rfl⟩ : ∃ q, k = q + 1 := ⟨k - 1, by omega⟩
   rw [laws_sameInts.l0, if_neg (by omega), List.drop_of_length_le (by omega), List.drop_of_length_le (by omega)]
   simp
  | succ d ih =>
   intro i k hi hk
   obtain ⟨k, rfl⟩ : ∃ q, k = q + 1 := ⟨k - 1, by omega⟩
   rw [laws_sameInts.l0, if_pos (by omega), if_pos (by omega), if_pos (by omega), List.drop_eq_getElem_cons (show i < a.length by omega), List.drop_eq_getElem_cons (show i < b.length by omega), rd_nat a i (by omega), rd_nat b i (by omega)]
   by_cases c : a[i] = b[i]
   ·rw [if_pos c, wrap_succ (by omega), ih (i + 1) k (by omega) (by omega)]
    congr 1
    exact decide_eq_decide.2 ⟨fun q => by rw [c, q], fun q => (List.cons.inj q).2⟩
   ·rw [if_neg c, decide_eq_false (fun q => c (List.cons.inj q).1)]
 have h := key a.length 0 k (by omega) (by omega)
 simpa using h
theorem at_exE (l : List Int) (hl : l.length ≤ 1048576) (hb : ∀ x, x ∈ l → 0 ≤ x ∧ x ≤ 255) (i : Nat) (hi : i ≤ 1000) : ∃ v, laws_at.f l (i : Int) = some v ∧ 0 ≤ v ∧ v ≤ 100000 := by
 unfold laws_at.f
 by_cases c : (i : Int) < (l.length : Int)
 ·rw [if_pos c, if_pos (by omega)]
  have := hb _ (rd_mem l i (by omega))
  exact ⟨_, rfl, by rw [wrap_small (by omega) (by omega)]; omega⟩
 ·rw [if_neg c]
  rw [wrap_small (x := (i : Int) * 7) (by omega) (by omega), wrap_small (by omega) (by omega), tmod_pos _ _ (by omega)]
  exact ⟨_, rfl, by omega⟩
theorem bytes_wfE {l : List Int} (h : ∀ x ∈ l, (Lit.int .u8 x).wf = true) : ∀ x, x ∈ l → 0 ≤ x ∧ x ≤ 255 := by
 intro x hx
 have := h x hx
 have e1 : IntKind.u8.min = 0 := by decide
 have e2 : IntKind.u8.max = 255 := by decide
 simp [Lit.wf, e1, e2] at this
 omega
theorem rdLE (l : List (List Int)) (i : Nat) (h : i < l.length) : rd_L2 l (i : Int) = l[i] := by
 unfold rd_L2; simp [List.getD, h]
theorem addL_nodup {out : List (List Int)} (x : List Int) (h : out.Nodup) : (addL out x).Nodup := by
 unfold addL
 split
 ·exact h
 ·rename_i c
  exact List.nodup_append.2 ⟨h, by simp, fun a ha b hb e => by rw [List.mem_singleton] at hb; subst hb; subst e; exact (not_or.1 c).2 ha⟩
theorem addAll_nodup (ls : List (List Int)) : ∀ {out : List (List Int)}, out.Nodup → (addAll out ls).Nodup := by
 induction ls with
 | nil => exact fun h => h
 | cons x ls ih => exact fun h => ih (addL_nodup x h)
theorem runIx_mem {hs : List Hh} {i : Nat} : i ∈ runIx hs ↔ i < hs.length ∧ (rd_T29 hs (i : Int)).f2 = 0 := by
 unfold runIx
 rw [List.mem_filter, List.mem_range, decide_eq_true_iff]
theorem leaves_at {d : Nat} {m : List Int} {hs : List Hh} {i : Nat} (h : i ∈ runIx hs) {x : List Int} (hx : x ∈ leaves d (goM m hs i) (goH m hs i)) : x ∈ leaves (d + 1) m hs := by
 rw [leaves, if_neg (by intro e; rw [e] at h; cases h)]
 exact List.mem_flatMap.2 ⟨i, h, hx⟩
theorem leaves_none {d : Nat} {m : List Int} {hs : List Hh} (h : runIx hs = []) : leaves d m hs = [m] := by
 cases d with
 | zero => rfl
 | succ d => rw [leaves, if_pos h]
theorem FnAllEnds : laws_FnAllEnds.Pure := by
 intro c _ _ hcb
 obtain ⟨K, hK⟩ : ∃ K : Nat, 20000000 ≤ K := ⟨_, Nat.le_refl _⟩
 refine ⟨K, ?_⟩
 unfold laws_FnAllEnds.f laws_big.f
 rw [Option.bind_some]
 by_cases hb : (c.length : Int) > 1048576
 ·rw [if_pos (decide_eq_true hb)]
 rw [if_neg (by simpa using hb)]
 obtain ⟨m, hs, n, e0, ⟨q1, q2, q3, q4, q5⟩⟩ := drawEnds2_ex c (by omega) K (by omega)
 have l1 := wordsB_24 q1
 have f1 := implEnds2_eq m hs n (by omega) (by omega) q3 K (by omega)
 have f2 := specEnds2_eq m hs n (by omega) (by omega) q3 K (by omega)
 obtain ⟨v1, v2⟩ := endsV_ok m hs n
 have v3 : (endsV m hs n).Nodup := by
  unfold endsV
  split
  ·exact addAll_nodup _ List.nodup_nil
  ·exact List.nodup_nil
 have v4 : endsV m hs n ≠ [] → (endsV m hs n).length < 40 → okS m hs ∧ ∃ N : Nat, n = (N : Int) ∧ N ≤ 12 ∧ ∀ x ∈ leaves N m hs, x ∈ endsV m hs n := by
  unfold endsV
  split
  ·rename_i h
   intro _ h40
   refine ⟨⟨h.1, h.2.1, fun x hx => List.all_eq_true.1 h.2.2.2 x hx⟩, n.toNat, by omega, by omega, ?_⟩
   rcases absL_all (leaves n.toNat m hs) [] with q | q
   ·omega
   ·exact q
  ·intro h; exact absurd rfl h
 rw [e0, Option.bind_some]
 dsimp only
 rw [f1, Option.bind_some, f2, Option.bind_some, if_pos rfl]
 generalize endsV m hs n = V at v1 v2 v3 v4
 clear f1 f2 e0
 have at_ : ∀ i : Nat, i ≤ 1000 → ∃ v, laws_at.f c (i : Int) = some v ∧ 0 ≤ v ∧ v ≤ 100000 := fun i hi => at_exE c (by omega) (bytes_wfE hcb) i hi
 have L4 : ∀ (mem : List Int), mem.length = 24 → mem ∈ V → ∀ (d i k : Nat), i + d = V.length → mem ∈ V.drop i → 2000 + d < k → laws_FnAllEnds.l4 k V mem (i : Int) = some true := by
  intro mem hm hmem d
  induction d with
  | zero =>
   intro i k hi hin hk
   rw [List.drop_of_length_le (by omega)] at hin
   cases hin
  | succ d ih =>
   intro i k hi hin hk
   obtain ⟨k, rfl⟩ : ∃ q, k = q + 1 := ⟨k - 1, by omega⟩
   have hil : i < V.length := by omega
   have l24 := v2 _ (List.getElem_mem hil)
   rw [laws_FnAllEnds.l4, if_pos (by omega), if_pos (by omega), rdLE V i hil, sameIntsE _ _ (by omega) (by omega) k (by omega), Option.bind_some]
   by_cases e : V[i] = mem
   ·rw [if_pos (decide_eq_true e)]
   ·rw [if_neg (by simpa using e), wrap_succ (by omega)]
    rw [List.drop_eq_getElem_cons hil] at hin
    refine ih (i + 1) k (by omega) ?_ (by omega)
    rcases List.mem_cons.1 hin with h | h
    ·exact absurd h.symm e
    ·exact h
 have L2 : ∀ (N : Nat), N ≤ 12 → ∀ (d i : Nat) (mem : List Int) (H : List Hh) (k : Nat), i + d = N → okS mem H → (∀ x ∈ leaves d mem H, x ∈ V) → 10000000 + 100 * d < k → laws_FnAllEnds.l2 k c (N : Int) V mem H (i : Int) = some true := by
  intro N hN d
  induction d with
  | zero =>
   intro i mem H k hi ok hlv hk
   obtain ⟨k, rfl⟩ : ∃ q, k = q + 1 := ⟨k - 1, by omega⟩
   rw [laws_FnAllEnds.l2, if_neg (by omega)]
   have hmem := hlv mem (by rw [leaves]; exact List.mem_singleton.2 rfl)
   exact L4 mem (wordsB_24 ok.1) hmem V.length 0 k (by omega) (by rw [List.drop_zero]; exact hmem) (by omega)
  | succ d ih =>
   intro i mem H k hi ok hlv hk
   obtain ⟨k, rfl⟩ : ∃ q, k = q + 1 := ⟨k - 1, by omega⟩
   obtain ⟨a, ea, a0, a1⟩ := at_ i (by omega)
   have lh := ok.2.1
   have sh : shortH H := fun x hx => by have := hartB_len (ok.2.2 x hx); omega
   have l24 := wordsB_24 ok.1
   rw [laws_FnAllEnds.l2, if_pos (by omega)]
   have fin : ∀ (x : Int) (k : Nat), 10000000 + 100 * d + 10 < k → ((x = -1 ∧ runIx H = []) ∨ ∃ r : Nat, x = (r : Int) ∧ r ∈ runIx H) → ((impl_FlatRun.f k mem H [x]).bind fun b => laws_FnAllEnds.l2 k c (N : Int) V b.1 b.2 (wrap64 ((i : Int) + 1))) = some true := by
    intro x k hk hx
    rw [implFlatRun_eq mem H [x] (by omega) (by omega) sh k (by omega), if_pos ⟨by simp, ok.1⟩, Option.bind_some, wrap_succ (by omega)]
    have er : runV mem H [x] = nextV (mem, H) x := rfl
    rw [er]
    rcases hx with ⟨rfl, hr⟩ | ⟨r, rfl, hr⟩
    ·have en : nextV (mem, H) (-1) = (mem, H) := by
      unfold nextV
      rw [if_neg (fun (h : mayGo H (-1)) => by have := h.1; omega)]
     rw [en]
     dsimp only
     refine ih (i + 1) mem H k (by omega) ok ?_ (by omega)
     rw [leaves_none hr]
     rwa [leaves_none hr] at hlv
    ·obtain ⟨h1, h2⟩ := runIx_mem.1 hr
     have hh := ok.2.2 _ (rdH_mem H (r : Int) (by omega) (by omega))
     have en : nextV (mem, H) (r : Int) = (goM mem H r, goH mem H r) := by
      unfold nextV
      rw [if_pos (show mayGo H (r : Int) from ⟨by omega, by omega, by unfold goB; rw [hh, h2]; rfl⟩)]
      rfl
     rw [en]
     dsimp only
     exact ih (i + 1) _ _ k (by omega) (okS_go ok h1) (fun x hx => hlv x (leaves_at hr hx)) (by omega)
   have inner : ∀ (e j : Nat) (x : Int) (k : Nat), j + e = H.length → 10000000 + 100 * d + 12 + e < k →
     ((x = -1 ∧ ∀ j' : Nat, j' < j → ¬ (rd_T29 H (((j' : Int) + a) % (H.length : Int))).f2 = 0) ∨ ∃ r : Nat, x = (r : Int) ∧ r ∈ runIx H) →
     laws_FnAllEnds.l3 k c (N : Int) V mem H (i : Int) x (j : Int) = some true := by
    intro e
    induction e with
    | zero =>
     intro j x k hj hk hx
     obtain ⟨k, rfl⟩ : ∃ q, k = q + 1 := ⟨k - 1, by omega⟩
     rw [laws_FnAllEnds.l3, if_neg (by omega)]
     refine fin x k (by omega) ?_
     rcases hx with ⟨h1, h2⟩ | h
     ·refine .inl ⟨h1, ?_⟩
      cases hr : runIx H with
      | nil => rfl
      | cons r t =>
       have hmem : r ∈ runIx H := by rw [hr]; exact List.mem_cons_self ..
       obtain ⟨g1, g2⟩ := runIx_mem.1 hmem
       have hp : (0 : Int) < (H.length : Int) := by omega
       have m0 := Int.emod_nonneg ((r : Int) - a) (by omega : (H.length : Int) ≠ 0)
       have m1 := Int.emod_lt_of_pos ((r : Int) - a) hp
       have e2 : ((((((r : Int) - a) % (H.length : Int)).toNat : Nat) : Int) + a) % (H.length : Int) = (r : Int) := by
        rw [Int.toNat_of_nonneg m0, Int.emod_add_emod, Int.sub_add_cancel]
        exact Int.emod_eq_of_lt (by omega) (by omega)
       have := h2 (((r : Int) - a) % (H.length : Int)).toNat (by omega)
       rw [e2] at this
       exact absurd g2 this
     ·exact .inr h
    | succ e ihe =>
     intro j x k hj hk hx
     obtain ⟨k, rfl⟩ : ∃ q, k = q + 1 := ⟨k - 1, by omega⟩
     have hp : (0 : Int) < (H.length : Int) := by omega
     have m0 := Int.emod_nonneg ((j : Int) + a) (by omega : (H.length : Int) ≠ 0)
     have m1 := Int.emod_lt_of_pos ((j : Int) + a) hp
     rw [laws_FnAllEnds.l3, if_pos (by omega), ea, Option.bind_some, if_neg (by omega), wrap_small (x := (j : Int) + a) (by omega) (by omega), tmod_pos _ _ (by omega), if_pos m0, if_pos m1, wrap_succ (by omega)]
     by_cases cr : (rd_T29 H (((j : Int) + a) % (H.length : Int))).f2 = 0
     ·rw [if_pos cr]
      refine ihe (j + 1) _ k (by omega) (by omega) (.inr ⟨(((j : Int) + a) % (H.length : Int)).toNat, (Int.toNat_of_nonneg m0).symm, runIx_mem.2 ⟨by omega, by rw [Int.toNat_of_nonneg m0]; exact cr⟩⟩)
     ·rw [if_neg cr]
      refine ihe (j + 1) x k (by omega) (by omega) ?_
      rcases hx with ⟨h1, h2⟩ | h
      ·refine .inl ⟨h1, fun j' hj' => ?_⟩
       by_cases q : j' = j
       ·rw [q]; exact cr
       ·exact h2 j' (by omega)
      ·exact .inr h
   exact inner H.length 0 (-1) k (by omega) (by omega) (.inl ⟨rfl, fun j' hj' => absurd hj' (Nat.not_lt_zero _)⟩)
 have J2 : ∀ k, 11000000 < k → ∀ b : Bool, (b = true ↔ V.length = 0 ∨ 40 ≤ V.length) → laws_FnAllEnds.j2 k c m hs n V b = some true := by
  intro k hk b hb
  obtain ⟨k, rfl⟩ : ∃ q, k = q + 1 := ⟨k - 1, by omega⟩
  rw [laws_FnAllEnds.j2]
  by_cases cb : b = true
  ·rw [if_pos cb, decide_eq_true (by omega)]
  ·rw [if_neg cb]
   have h := not_or.1 (fun h => cb (hb.2 h))
   obtain ⟨ok, N, rfl, hN, hlv⟩ := v4 (fun h2 => h.1 (by rw [h2]; rfl)) (by omega)
   exact L2 N hN N 0 m hs k (by omega) ok hlv (by omega)
 have L0 : ∀ (d i k : Nat), i + d = V.length → 12000000 + 100 * d < k → laws_FnAllEnds.l0 k c m hs n V V (i : Int) = some true := by
  intro d
  induction d with
  | zero =>
   intro i k hi hk
   obtain ⟨k, rfl⟩ : ∃ q, k = q + 1 := ⟨k - 1, by omega⟩
   rw [laws_FnAllEnds.l0, if_neg (by omega)]
   by_cases c0 : (V.length : Int) = 0
   ·rw [if_pos c0]; exact J2 k (by omega) true ⟨fun _ => .inl (by omega), fun _ => rfl⟩
   ·rw [if_neg c0]; exact J2 k (by omega) _ (by rw [decide_eq_true_iff]; omega)
  | succ d ih =>
   intro i k hi hk
   obtain ⟨k, rfl⟩ : ∃ q, k = q + 1 := ⟨k - 1, by omega⟩
   have hil : i < V.length := by omega
   have l24 := v2 _ (List.getElem_mem hil)
   rw [laws_FnAllEnds.l0, if_pos (by omega), if_pos (by omega), if_pos (by omega), rdLE V i hil, sameIntsE _ _ rfl (by omega) k (by omega), decide_eq_true rfl, Option.bind_some, if_pos rfl]
   have inner : ∀ (e j k : Nat), j + e = i → 12000000 + 100 * d + e + 1 < k → laws_FnAllEnds.l1 k c m hs n V V (i : Int) (j : Int) = some true := by
    intro e
    induction e with
    | zero =>
     intro j k hj hk
     obtain ⟨k, rfl⟩ : ∃ q, k = q + 1 := ⟨k - 1, by omega⟩
     rw [laws_FnAllEnds.l1, if_neg (by omega), wrap_succ (by omega)]
     exact ih (i + 1) k (by omega) (by omega)
    | succ e ihe =>
     intro j k hj hk
     obtain ⟨k, rfl⟩ : ∃ q, k = q + 1 := ⟨k - 1, by omega⟩
     have hjl : j < V.length := by omega
     have lj := v2 _ (List.getElem_mem hjl)
     have hne : V[i] ≠ V[j] := fun h => List.pairwise_iff_getElem.1 v3 j i hjl hil (by omega) h.symm
     rw [laws_FnAllEnds.l1, if_pos (by omega), if_pos (by omega), if_pos (by omega), if_pos (by omega), if_pos (by omega), rdLE V i hil, rdLE V j hjl, sameIntsE _ _ (by omega) (by omega) k (by omega), decide_eq_false hne, Option.bind_some, if_neg (by simp), wrap_succ (by omega)]
     exact ihe (j + 1) k (by omega) (by omega)
   exact inner i 0 k (by omega) (by omega)
 exact L0 V.length 0 K (by omega) (by omega)
end Go.Proofs.Ytnjdepmlpdjghaa.Pure
