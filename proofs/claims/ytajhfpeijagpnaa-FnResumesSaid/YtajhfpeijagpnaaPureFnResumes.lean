/- For all bytes: what is kept of a run that is drawn from them goes on as it would have gone: no conditions. -/
import Derived.Test.YtajhfpeijagpnaaPFnResumesx16
import Derived.Lib.Bytes
namespace Go.Proofs.Ytajhfpeijagpnaa.Pure
open Go.RowKit Go.Proofs.Ytajhfpeijagpnaa.PFnResumes Go.Proofs.YtajhfpeijagpnaaW.PrintWords Go.Proofs.YtajhfpeijagpnaaW.PrintLast
set_option linter.unusedVariables false
set_option linter.unusedSimpArgs false

theorem wrap_small {x : Int} (h0 : -9223372036854775808 ≤ x) (h : x ≤ 9223372036854775807) : wrap64 x = x := by
 unfold wrap64; omega
theorem wrap_succ {i : Nat} (h : i < 4611686018427387904) : wrap64 ((i : Int) + 1) = ((i + 1 : Nat) : Int) := by
 unfold wrap64; omega
theorem rd_nat (l : List Int) (i : Nat) (h : i < l.length) : rd l (i : Int) = l[i] := by
 unfold rd; simp [List.getD, h]
theorem rd_mem (l : List Int) (i : Nat) (h : i < l.length) : rd l (i : Int) ∈ l := by
 rw [rd_nat l i h]; exact List.getElem_mem h
theorem for_st {σ ρ : Type} (n : Nat) (L : Nat → Nat → σ → Option ρ) (st : Nat → σ) (r : ρ) (hs : ∀ k i, i < n → L (k + 1) i (st i) = L k (i + 1) (st (i + 1))) (he : ∀ k, L (k + 1) n (st n) = some r) :
  ∀ (k i : Nat), i ≤ n → n < i + k → L k i (st i) = some r
 | 0, i, hi, hk => by omega
 | k + 1, i, hi, hk => by
  by_cases h : i < n
  ·rw [hs k i h]; exact for_st n L st r hs he k (i + 1) (by omega) (by omega)
  ·have : i = n := by omega
   subst this; exact he k
theorem for_find {ρ : Type} (n : Nat) (L : Nat → Nat → Option ρ) (p : Nat → Prop) (b : Nat → ρ) (r : ρ) (hs : ∀ k i, i < n → ¬ p i → L (k + 1) i = L k (i + 1)) (hb : ∀ k i, i < n → p i → L (k + 1) i = some (b i)) (he : ∀ k, L (k + 1) n = some r) :
  ∀ (k i : Nat), i ≤ n → n < i + k → (∃ j, i ≤ j ∧ j < n ∧ p j ∧ (∀ m, i ≤ m → m < j → ¬ p m) ∧ L k i = some (b j)) ∨ (∀ j, i ≤ j → j < n → ¬ p j) ∧ L k i = some r
 | 0, i, hi, hk => by omega
 | k + 1, i, hi, hk => by
  by_cases h : i < n
  ·by_cases hp : p i
   ·exact .inl ⟨i, Nat.le_refl _, h, hp, fun m h1 h2 => by omega, hb k i h hp⟩
   ·rw [hs k i h hp]
    rcases for_find n L p b r hs hb he k (i + 1) (by omega) (by omega) with ⟨j, h1, h2, h3, h4, h5⟩ | ⟨h1, h2⟩
    ·refine .inl ⟨j, by omega, h2, h3, fun m hm1 hm2 => ?_, h5⟩
     by_cases e : m = i
     ·subst e; exact hp
     ·exact h4 m (by omega) hm2
    ·refine .inr ⟨fun j hj1 hj2 => ?_, h2⟩
     by_cases e : j = i
     ·subst e; exact hp
     ·exact h1 j (by omega) hj2
  ·have : i = n := by omega
   subst this; exact .inr ⟨fun j h1 h2 => by omega, he k⟩
theorem for_all {n : Nat} {L : Nat → Nat → Option Bool} (p : Nat → Prop) (hs : ∀ k i, i < n → p i → L (k + 1) i = L k (i + 1)) (hb : ∀ k i, i < n → ¬ p i → L (k + 1) i = some false) (c : Bool) (he : ∀ k, L (k + 1) n = some c) {q : Bool}
  (hq : q = true ↔ (∀ j, j < n → p j) ∧ c = true) (k : Nat) (hk : n < k) : L k 0 = some q := by
 rcases for_find n L (fun i => ¬ p i) (fun _ => false) c (fun k i h hp => hs k i h (Classical.not_not.1 hp)) (fun k i h hp => hb k i h hp) he k 0 (Nat.zero_le _) (by omega) with ⟨j, _, h2, h3, _, h5⟩ | ⟨h1, h2⟩
 ·rw [h5]; congr 1; symm
  rw [Bool.eq_false_iff]; intro hh; exact h3 ((hq.1 hh).1 j h2)
 ·rw [h2]; congr 1
  have : ∀ j, j < n → p j := fun j hj => Classical.not_not.1 (h1 j (Nat.zero_le _) hj)
  rw [Bool.eq_iff_iff, hq]; exact ⟨fun h => ⟨this, h⟩, fun h => h.2⟩
theorem snoc_step {α : Type} (a : List α) (i : Nat) (hi : i < a.length) : a.take i ++ [a[i]'hi] = a.take (i + 1) := by
 rw [List.take_succ_eq_append_getElem hi]
theorem wraps_i64 (n : Int) (h0 : 0 ≤ n) (h1 : n < 2 ^ 62) : IntKind.i64.wrap n = n := by rw [IntKind.wrap_i64]; omega
theorem and255 (x : Int) (h0 : 0 ≤ x) (h : x ≤ 65535) : Go.bits .and .i64 x 255 = x % 256 := bits_mask .i64 62 (by decide) wraps_i64 8 (by decide) x h0 (by omega)
theorem same_loop {n C : Nat} (L : Nat → Nat → Option Bool) (hs : ∀ k i, i < n → C ≤ k → L (k + 1) i = L k (i + 1)) (he : ∀ k, L (k + 1) n = some true) (k : Nat) (hk : n + C < k) : L k 0 = some true := by
 have h := for_st n (fun k' i (_ : Unit) => L (k' + C) i) (fun _ => ()) true ?_ ?_ (k - C) 0 (Nat.zero_le _) (by omega)
 ·rw [show k - C + C = k by omega] at h; exact h
 ·intro k' i hi; rw [show k' + 1 + C = (k' + C) + 1 by omega, hs _ _ hi (by omega)]
 ·intro k'; rw [show k' + 1 + C = (k' + C) + 1 by omega, he]
def wordsB (l : List Int) (n : Int) : Bool := decide ((l.length : Int) = n) && l.all (fun x => decide (0 ≤ x ∧ x ≤ 65535))
theorem wordsB_mem {l : List Int} {n : Int} (h : wordsB l n = true) (x : Int) (hx : x ∈ l) : 0 ≤ x ∧ x ≤ 65535 := by
 unfold wordsB at h; rw [Bool.and_eq_true, List.all_eq_true] at h; exact of_decide_eq_true (h.2 x hx)
def hartB (regs : List Int) (pc st : Int) : Bool := wordsB regs 4 && (decide (0 ≤ pc ∧ pc ≤ 23) && decide (0 ≤ st ∧ st ≤ 2))
theorem ite_some' (b c : Bool) : (if b = true then some c else some false) = some (b && c) := by cases b <;> rfl
theorem hartB_len {r : List Int} {p s : Int} (h : hartB r p s = true) : r.length = 4 := by
 unfold hartB wordsB at h; rw [Bool.and_eq_true, Bool.and_eq_true] at h; have := of_decide_eq_true h.1.1; omega
theorem wordsB_24 {l : List Int} (h : wordsB l 24 = true) : l.length = 24 := by unfold wordsB at h; rw [Bool.and_eq_true] at h; have := of_decide_eq_true h.1; omega
theorem tmod_pos (n c : Int) (h : 0 ≤ n) : Int.tmod n c = n % c := Int.tmod_eq_emod_of_nonneg h
theorem tmod_neg (n c : Int) (h : n < 0) : Int.tmod n c = -((-n) % c) := by
 rw [← Int.tmod_eq_emod_of_nonneg (by omega : 0 ≤ -n), Int.neg_tmod, Int.neg_neg]
theorem tdiv_pos (n c : Int) (h : 0 ≤ n) : Int.tdiv n c = n / c := Int.tdiv_eq_ediv_of_nonneg h
theorem tmod_up (n c : Int) (hc : 0 < c) (hb : c ≤ 4294967296) : Int.tmod (Int.tmod n c + c) c = n % c := by
 have h1 := Int.emod_nonneg n (by omega : c ≠ 0)
 have h2 := Int.emod_lt_of_pos n hc
 rcases Int.lt_or_le n 0 with h | h
 ·rw [tmod_neg n c h]
  have h3 := Int.emod_nonneg (-n) (by omega : c ≠ 0)
  have h4 := Int.emod_lt_of_pos (-n) hc
  rw [tmod_pos _ _ (by omega), Int.add_emod_right, ← Int.sub_emod_right]
  have := Int.emod_add_mul_ediv (-n) c
  have e : -(-n % c) - c = n + c * ((-n) / c - 1) := by
   have : n = -(-n % c) - c * ((-n) / c) := by omega
   rw [Int.mul_sub]; omega
  rw [e, Int.add_mul_emod_self_left]
 ·rw [tmod_pos n c h, tmod_pos _ _ (by omega), Int.add_emod_right, Int.emod_emod_of_dvd _ (Int.dvd_refl c)]
theorem tmod_bd (n c : Int) (hc : 0 < c) : -c < Int.tmod n c ∧ Int.tmod n c < c := by
 rcases Int.lt_or_le n 0 with h | h
 ·rw [tmod_neg n c h]
  have h3 := Int.emod_nonneg (-n) (by omega : c ≠ 0)
  have h4 := Int.emod_lt_of_pos (-n) hc
  omega
 ·rw [tmod_pos n c h]
  have h3 := Int.emod_nonneg n (by omega : c ≠ 0)
  have h4 := Int.emod_lt_of_pos n hc
  omega
theorem for_stC {σ ρ : Type} (C n : Nat) (L : Nat → Nat → σ → Option ρ) (st : Nat → σ) (r : ρ) (hs : ∀ k i, C ≤ k → i < n → L (k + 1) i (st i) = L k (i + 1) (st (i + 1))) (he : ∀ k, C ≤ k → L (k + 1) n (st n) = some r) :
  ∀ (k i : Nat), i ≤ n → n + C < i + k → L k i (st i) = some r
 | 0, i, hi, hk => by omega
 | k + 1, i, hi, hk => by
  by_cases h : i < n
  ·rw [hs k i (by omega) h]; exact for_stC C n L st r hs he k (i + 1) (by omega) (by omega)
  ·have : i = n := by omega
   subst this; exact he k (by omega)
def wordAt (l : List Int) (i : Nat) : Int := Go.bits .or .i64 (wrap64 ((wrap64 (rd l ((2 * i : Nat) : Int))) * 256)) (wrap64 (rd l ((2 * i + 1 : Nat) : Int)))
def wordsOf (l : List Int) : List Int := (List.range (l.length / 2)).map (wordAt l)
theorem wordsOf_length (l : List Int) : (wordsOf l).length = l.length / 2 := by simp [wordsOf]
theorem wordsIn_eq (l : List Int) (hl : l.length ≤ 2097152) (k : Nat) (hk : l.length < k) : impl_wordsIn.f k l = some (wordsOf l) := by
 unfold impl_wordsIn.f
 have h := for_st (l.length / 2) (fun k i (s : List Int) => impl_wordsIn.l0 k l s ((2 * i : Nat) : Int)) (fun i => (List.range i).map (wordAt l)) (wordsOf l) ?_ ?_ k 0 (Nat.zero_le _) (by omega)
 ·simpa using h
 ·intro k i hi
  simp only [impl_wordsIn.l0]
  have e1 : wrap64 (((2 * i : Nat) : Int) + 1) = ((2 * i + 1 : Nat) : Int) := by unfold wrap64; omega
  have e2 : wrap64 (((2 * i : Nat) : Int) + 2) = ((2 * (i + 1) : Nat) : Int) := by unfold wrap64; omega
  rw [e1, e2, if_pos (by omega), if_pos (by omega), if_pos (by omega), if_pos (by omega), if_pos (by simp; omega), List.range_succ, List.map_append]
  rfl
 ·intro k
  simp only [impl_wordsIn.l0]
  rw [if_neg (by unfold wrap64; omega)]
  rfl
theorem l1In_eq (x lo hi : Int) : spec_l1In.f x lo hi = some (decide (lo ≤ x ∧ x ≤ hi)) := by
 unfold spec_l1In.f
 by_cases h : x ≥ lo
 ·rw [if_pos h]; have h' : lo ≤ x := h; simp [h']
 ·rw [if_neg h]; have h' : ¬ lo ≤ x := h; simp [h']
theorem from_eq (x lo hi : Int) : impl_from.f x lo hi = some (decide (lo ≤ x ∧ x ≤ hi)) := by
 unfold impl_from.f
 by_cases h : x ≥ lo
 ·rw [if_pos h]; have h' : lo ≤ x := h; simp [h']
 ·rw [if_neg h]; have h' : ¬ lo ≤ x := h; simp [h']
theorem isWord_eq (x : Int) : impl_isWord.f x = some (decide (0 ≤ x ∧ x ≤ 65535)) := by
 unfold impl_isWord.f; rw [from_eq]; rfl
theorem isCell_eq (x : Int) : impl_isCell.f x = some (decide (0 ≤ x ∧ x ≤ 23)) := by
 unfold impl_isCell.f; rw [from_eq]; rfl
theorem l1Words_eq (l : List Int) (n : Int) (hl : l.length ≤ 2097152) (k : Nat) (hk : l.length < k) : spec_l1Words.f k l n = some (wordsB l n) := by
 unfold spec_l1Words.f
 refine for_all (L := fun k i => spec_l1Words.l0 k l n (i : Int)) (n := l.length) (fun j => 0 ≤ rd l (j : Int) ∧ rd l (j : Int) ≤ 65535) ?_ ?_ (decide ((l.length : Int) = n)) ?_ ?_ k hk
 ·intro k i hi hp
  simp only [spec_l1Words.l0]
  rw [if_pos (by omega), if_pos (by omega), l1In_eq, decide_eq_true hp, Option.bind_some, if_pos rfl, wrap_succ (by omega)]
 ·intro k i hi hp
  simp only [spec_l1Words.l0]
  rw [if_pos (by omega), if_pos (by omega), l1In_eq, decide_eq_false hp, Option.bind_some, if_neg (by simp)]
 ·intro k
  simp only [spec_l1Words.l0]
  rw [if_neg (by omega)]; rfl
 ·unfold wordsB
  rw [Bool.and_eq_true, List.all_eq_true]
  constructor
  ·rintro ⟨h1, h2⟩; exact ⟨fun j hj => of_decide_eq_true (h2 _ (rd_mem l j hj)), h1⟩
  ·rintro ⟨h1, h2⟩; refine ⟨h2, fun x hx => ?_⟩
   obtain ⟨j, hj, rfl⟩ := List.getElem_of_mem hx
   have := h1 j hj; rw [rd_nat l j hj] at this; exact decide_eq_true this
theorem wordsOk_eq (l : List Int) (n : Int) (hl : l.length ≤ 2097152) (k : Nat) (hk : l.length < k) : impl_wordsOk.f k l n = some (wordsB l n) := by
 unfold impl_wordsOk.f
 by_cases h : (l.length : Int) = n
 ·rw [if_pos h]
  unfold slices_ContainsFunc_at_impl_wordsOk_1.f slices_IndexFunc_at_impl_wordsOk_1.f
  have hf : ∀ x, impl_wordsOk_1.f x = some (!decide (0 ≤ x ∧ x ≤ 65535)) := fun x => by unfold impl_wordsOk_1.f; rw [isWord_eq]; rfl
  have hs : ∀ k i, i < l.length → ¬ ¬ (0 ≤ rd l (i : Int) ∧ rd l (i : Int) ≤ 65535) → slices_IndexFunc_at_impl_wordsOk_1.l0 (k + 1) l (l.length : Int) (i : Int) = slices_IndexFunc_at_impl_wordsOk_1.l0 k l (l.length : Int) ((i + 1 : Nat) : Int) := by
   intro k i hi hp
   simp only [slices_IndexFunc_at_impl_wordsOk_1.l0]
   rw [if_pos (by omega), if_pos (by omega), if_pos (by omega), hf, decide_eq_true (Classical.not_not.1 hp), Option.bind_some, if_neg (by simp), wrap_succ (by omega)]
  have hb : ∀ k i, i < l.length → ¬ (0 ≤ rd l (i : Int) ∧ rd l (i : Int) ≤ 65535) → slices_IndexFunc_at_impl_wordsOk_1.l0 (k + 1) l (l.length : Int) (i : Int) = some (i : Int) := by
   intro k i hi hp
   simp only [slices_IndexFunc_at_impl_wordsOk_1.l0]
   rw [if_pos (by omega), if_pos (by omega), if_pos (by omega), hf, decide_eq_false hp, Option.bind_some, if_pos (by simp)]
  have he : ∀ k, slices_IndexFunc_at_impl_wordsOk_1.l0 (k + 1) l (l.length : Int) (l.length : Int) = some (-1) := by
   intro k
   simp only [slices_IndexFunc_at_impl_wordsOk_1.l0]
   rw [if_neg (by omega)]
  rcases for_find l.length (fun k i => slices_IndexFunc_at_impl_wordsOk_1.l0 k l (l.length : Int) (i : Int)) (fun j => ¬ (0 ≤ rd l (j : Int) ∧ rd l (j : Int) ≤ 65535)) (fun j => (j : Int)) (-1) hs hb he k 0 (Nat.zero_le _) (by omega) with ⟨j, _, h2, h3, _, h5⟩ | ⟨h1, h2⟩
  ·have h5' : slices_IndexFunc_at_impl_wordsOk_1.l0 k l (l.length : Int) 0 = some (j : Int) := h5
   rw [h5']
   simp only [Option.bind_some]; congr 1; symm
   rw [decide_eq_true (by omega : (j : Int) ≥ 0), Bool.not_true, wordsB, Bool.and_eq_false_iff]; right
   rw [Bool.eq_false_iff]; intro hh
   exact h3 (of_decide_eq_true (List.all_eq_true.1 hh _ (rd_mem l j h2)))
  ·have h2' : slices_IndexFunc_at_impl_wordsOk_1.l0 k l (l.length : Int) 0 = some (-1) := h2
   rw [h2']
   simp only [Option.bind_some]; congr 1; symm
   rw [decide_eq_false (by omega : ¬ (-1 : Int) ≥ 0), Bool.not_false, wordsB, decide_eq_true h, Bool.true_and, List.all_eq_true]
   intro x hx
   obtain ⟨j, hj, rfl⟩ := List.getElem_of_mem hx
   have := Classical.not_not.1 (h1 j (Nat.zero_le _) hj); rw [rd_nat l j hj] at this; exact decide_eq_true this
 ·rw [if_neg h, wordsB, decide_eq_false h, Bool.false_and]
theorem memOk_eq (l : List Int) (hl : l.length ≤ 2097152) (k : Nat) (hk : l.length < k) : impl_memOk.f k l = some (wordsB l 24) := by
 unfold impl_memOk.f; rw [wordsOk_eq l 24 hl k hk]; rfl
def twoB (l : List Int) : List Int := l.flatMap fun x => [x / 256 % 256, x % 256]
theorem twoB_length (l : List Int) : (twoB l).length = 2 * l.length := by
 induction l with
 | nil => rfl
 | cons x l ih => simp [twoB] at ih ⊢; omega
theorem twoB_snoc (l : List Int) (x : Int) : twoB (l ++ [x]) = twoB l ++ [x / 256 % 256, x % 256] := by simp [twoB]
theorem twoBytes_eq (l : List Int) (hl : l.length ≤ 2097152) (k : Nat) (hk : l.length < k) : impl_twoBytes.f k l = some (twoB l) := by
 unfold impl_twoBytes.f
 have h := for_st l.length (fun k i (s : List Int) => impl_twoBytes.l0 k s l (l.length : Int) (i : Int)) (fun i => twoB (l.take i)) (twoB l) ?_ ?_ k 0 (Nat.zero_le _) (by omega)
 ·simpa [twoB] using h
 ·intro k i hi
  simp only [impl_twoBytes.l0]
  rw [if_pos (by omega), if_pos (by omega), if_pos (by omega), Option.bind_some, if_pos (by rw [twoB_length, List.length_take]; simp; omega), wrap_succ (by omega), rd_nat l i hi, ← twoB_snoc, snoc_step l i hi]
 ·intro k
  simp only [impl_twoBytes.l0]
  rw [if_neg (by omega)]; simp
def memB (l : List Int) : List Int := if wordsB l 24 = true then twoB l else []
theorem specMemBytes_eq (l : List Int) (hl : l.length ≤ 2097152) (k : Nat) (hk : 2 * l.length + 1 < k) : spec_MemBytes.f k l = some (memB l) := by
 unfold spec_MemBytes.f
 by_cases hw : wordsB l 24 = true
 ·have h := for_st l.length (fun k' i (s : List Int) => spec_MemBytes.l0 (k' + (l.length + 1)) l s (i : Int)) (fun i => twoB (l.take i)) (twoB l) ?_ ?_ (k - (l.length + 1)) 0 (Nat.zero_le _) (by omega)
  ·have e : k - (l.length + 1) + (l.length + 1) = k := by omega
   rw [e] at h
   simpa [twoB, memB, hw] using h
  ·intro k' i hi
   have e : k' + 1 + (l.length + 1) = (k' + (l.length + 1)) + 1 := by omega
   have hx := wordsB_mem hw _ (rd_mem l i hi)
   have hb : 0 ≤ rd l (i : Int) / 256 % 256 := by omega
   rw [e]
   simp only [spec_MemBytes.l0]
   rw [if_pos (by omega), l1Words_eq l 24 hl _ (by omega), hw, Option.bind_some, if_pos rfl, if_pos (by omega), Option.bind_some, if_pos (by rw [twoB_length, List.length_take]; simp; omega), wrap_succ (by omega), and255 _ hx.1 hx.2, rd_nat l i hi, show l[i] % 256 % 256 = l[i] % 256 by omega, ← twoB_snoc, snoc_step l i hi]
  ·intro k'
   have e : k' + 1 + (l.length + 1) = (k' + (l.length + 1)) + 1 := by omega
   rw [e]
   simp only [spec_MemBytes.l0]
   rw [if_neg (by omega)]; simp
 ·obtain ⟨k, rfl⟩ : ∃ m, k = m + 1 := ⟨k - 1, by omega⟩
  have hw' : wordsB l 24 = false := by simpa using hw
  simp only [spec_MemBytes.l0]
  by_cases h : (0 : Int) < (l.length : Int)
  ·rw [if_pos h, l1Words_eq l 24 hl k (by omega), hw', Option.bind_some, if_neg (by simp), memB, if_neg hw]
  ·rw [if_neg h, memB, if_neg hw]
theorem implMemBytes_eq (l : List Int) (hl : l.length ≤ 2097152) (k : Nat) (hk : l.length < k) : impl_MemBytes.f k l = some (memB l) := by
 unfold impl_MemBytes.f memB
 rw [memOk_eq l hl k hk, Option.bind_some]
 by_cases hw : wordsB l 24 = true
 ·rw [if_pos hw, if_pos hw, twoBytes_eq l hl k hk]; rfl
 ·rw [if_neg hw, if_neg hw]
theorem insOkB_bounds {o r a b n : Int} (h : insOkB o r a b n = true) : 1 ≤ o ∧ o ≤ 10 ∧ 0 ≤ r ∧ r ≤ 3 ∧ 0 ≤ a ∧ a ≤ 3 ∧ 0 ≤ b ∧ b ≤ 3 ∧ 0 ≤ n ∧ n ≤ 63 := by
 unfold insOkB at h
 simp only [Bool.and_eq_true, decide_eq_true_eq] at h
 obtain ⟨h0, ⟨h1, h1'⟩, ⟨h2, h2'⟩, ⟨h3, h3'⟩, ⟨h4, h4'⟩⟩ := h
 refine ⟨?_, ?_, h1, h1', h2, h2', h3, h3', h4, h4'⟩
 ·by_cases c : 1 ≤ o
  ·exact c
  ·exfalso
   rw [if_neg (by omega), if_neg (by omega), if_neg (by omega), if_neg (by omega), if_neg (by omega), if_neg (by omega), if_neg (by omega), if_neg (by omega), if_neg (by omega), if_neg (by omega)] at h0
   cases h0
 ·by_cases c : o ≤ 10
  ·exact c
  ·exfalso
   rw [if_neg (by omega), if_neg (by omega), if_neg (by omega), if_neg (by omega), if_neg (by omega), if_neg (by omega), if_neg (by omega), if_neg (by omega), if_neg (by omega), if_neg (by omega)] at h0
   cases h0
theorem ite_some (b c : Bool) : (if b = true then some c else some false) = some (b && c) := by cases b <;> rfl
theorem l8Field_eq (x m : Int) (h : Bool) : spec_l8Field.f x m h = some (decide (0 ≤ x ∧ x ≤ m) && (h || decide (x = 0))) := by
 unfold spec_l8Field.f
 rw [l1In_eq, Option.bind_some]
 have e : (x == 0) = decide (x = 0) := rfl
 rw [e]
 cases h <;> simp only [if_true, Bool.false_eq_true, if_false, Bool.true_or, Bool.false_or, ite_some]
theorem specInsOk_eq (o r a b n : Int) : spec_InsOk.f o r a b n = some (insOkB o r a b n) := by
 unfold spec_InsOk.f spec_l8Has.f
 simp only [l1In_eq, l8Field_eq, Option.bind_some, ite_some]
 by_cases ho : 1 ≤ o ∧ o ≤ 10
 ·have hc : o = 1 ∨ o = 2 ∨ o = 3 ∨ o = 4 ∨ o = 5 ∨ o = 6 ∨ o = 7 ∨ o = 8 ∨ o = 9 ∨ o = 10 := by omega
  rw [decide_eq_true ho]
  rcases hc with rfl | rfl | rfl | rfl | rfl | rfl | rfl | rfl | rfl | rfl <;>
   (simp only [if_true, Option.bind_some, List.length_cons, List.length_nil]
    rw [if_pos (by omega), if_pos (by omega)]
    simp only [rd, Option.bind_some, Bool.true_and]
    congr 1
    rw [Bool.eq_iff_iff]
    simp [insOkB, show Go.bits .and .i64 0 1 = 0 by decide, show Go.bits .and .i64 0 2 = 0 by decide, show Go.bits .and .i64 0 4 = 0 by decide, show Go.bits .and .i64 0 8 = 0 by decide,
     show Go.bits .and .i64 7 1 = 1 by decide, show Go.bits .and .i64 7 2 = 2 by decide, show Go.bits .and .i64 7 4 = 4 by decide, show Go.bits .and .i64 7 8 = 0 by decide,
     show Go.bits .and .i64 8 1 = 0 by decide, show Go.bits .and .i64 8 2 = 0 by decide, show Go.bits .and .i64 8 4 = 0 by decide, show Go.bits .and .i64 8 8 = 8 by decide,
     show Go.bits .and .i64 9 1 = 1 by decide, show Go.bits .and .i64 9 2 = 0 by decide, show Go.bits .and .i64 9 4 = 0 by decide, show Go.bits .and .i64 9 8 = 8 by decide,
     show Go.bits .and .i64 10 1 = 0 by decide, show Go.bits .and .i64 10 2 = 2 by decide, show Go.bits .and .i64 10 4 = 0 by decide, show Go.bits .and .i64 10 8 = 8 by decide,
     show Go.bits .and .i64 11 1 = 1 by decide, show Go.bits .and .i64 11 2 = 2 by decide, show Go.bits .and .i64 11 4 = 0 by decide, show Go.bits .and .i64 11 8 = 8 by decide,
     show Go.bits .and .i64 14 1 = 0 by decide, show Go.bits .and .i64 14 2 = 2 by decide, show Go.bits .and .i64 14 4 = 4 by decide, show Go.bits .and .i64 14 8 = 8 by decide,
     show Go.bits .and .i64 15 1 = 1 by decide, show Go.bits .and .i64 15 2 = 2 by decide, show Go.bits .and .i64 15 4 = 4 by decide, show Go.bits .and .i64 15 8 = 8 by decide]
    try omega)
 ·have hn : ∀ c, 1 ≤ c → c ≤ 10 → o ≠ c := fun c h1 h2 e => ho (by omega)
  simp [ho, insOkB, hn]
theorem implHartOk_eq (regs : List Int) (pc st : Int) (hl : regs.length ≤ 2097152) (k : Nat) (hk : regs.length < k) : impl_HartOk.f k regs pc st = some (hartB regs pc st) := by
 unfold impl_HartOk.f hartB
 simp only [wordsOk_eq regs 4 hl k hk, isCell_eq, from_eq, Option.bind_some, ite_some']
theorem specHartOk_eq (regs : List Int) (pc st : Int) (hl : regs.length ≤ 2097152) (k : Nat) (hk : regs.length < k) : spec_HartOk.f k regs pc st = some (hartB regs pc st) := by
 unfold spec_HartOk.f hartB
 simp only [l1Words_eq regs 4 hl k hk, l1In_eq, Option.bind_some, ite_some']
def hartOfV (l : List Int) : List Int × Int × Int × Bool := if l.length = 10 ∧ hartB (wordsOf (l.take 8)) (wrap64 (rd l 8)) (wrap64 (rd l 9)) = true then (wordsOf (l.take 8), wrap64 (rd l 8), wrap64 (rd l 9), true) else ([], 0, 0, false)
theorem hartOfV_length (l : List Int) : (hartOfV l).1.length ≤ 4 := by
 unfold hartOfV
 by_cases h : l.length = 10 ∧ hartB (wordsOf (l.take 8)) (wrap64 (rd l 8)) (wrap64 (rd l 9)) = true
 ·rw [if_pos h]; show (wordsOf (l.take 8)).length ≤ 4; rw [wordsOf_length, List.length_take]; omega
 ·rw [if_neg h]; simp
theorem implHartOf_eq (l : List Int) (hl : l.length ≤ 2097152) (k : Nat) (hk : l.length + 20 < k) : impl_HartOf.f k l = some (hartOfV l) := by
 unfold impl_HartOf.f hartOfV
 by_cases h : l.length = 10
 ·have ht : (l.take 8).length = 8 := by rw [List.length_take]; omega
  rw [if_pos (by omega), if_pos (by omega), wordsIn_eq (l.take 8) (by omega) k (by omega), Option.bind_some, if_pos (by omega), if_pos (by omega), implHartOk_eq _ _ _ (by rw [wordsOf_length]; omega) k (by rw [wordsOf_length]; omega), Option.bind_some]
  by_cases hb : hartB (wordsOf (l.take 8)) (wrap64 (rd l 8)) (wrap64 (rd l 9)) = true
  ·rw [if_pos hb, if_pos ⟨h, hb⟩]
  ·rw [if_neg hb, if_neg (fun hh => hb hh.2)]
 ·rw [if_neg (by omega), if_neg (fun hh => h hh.1)]
def hartBytesV (r : List Int) (p s : Int) : List Int := if hartB r p s = true then twoB r ++ [p % 256, s % 256] else []
theorem implHartBytes_eq (r : List Int) (p s : Int) (hl : r.length ≤ 1048576) (k : Nat) (hk : 1048600 < k) : impl_HartBytes.f k r p s = some (hartBytesV r p s) := by
 unfold impl_HartBytes.f hartBytesV
 rw [implHartOk_eq r p s (by omega) k (by omega), Option.bind_some]
 by_cases h : hartB r p s = true
 ·rw [if_pos h, if_pos h, twoBytes_eq r (by omega) k (by omega), Option.bind_some, Option.bind_some, if_pos (by rw [twoB_length, hartB_len h]; show 2 * 4 + 2 < _; omega)]
 ·rw [if_neg h, if_neg h]
theorem specHartBytes_eq (r : List Int) (p s : Int) (hl : r.length ≤ 1048576) (k : Nat) (hk : 1048600 < k) : spec_HartBytes.f k r p s = some (hartBytesV r p s) := by
 unfold spec_HartBytes.f hartBytesV
 rw [Option.bind_some, specHartOk_eq r p s (by omega) k (by omega), Option.bind_some]
 by_cases h : hartB r p s = true
 ·rw [if_pos h, if_pos h]
  have ln := hartB_len h
  have hw : wordsB r 4 = true := by unfold hartB at h; rw [Bool.and_eq_true] at h; exact h.1
  have hh := for_st 4 (fun k' i (t : List Int) => spec_HartBytes.l0 k' t (i : Int) r p s) (fun i => twoB (r.take i)) (twoB r ++ [p % 256, s % 256]) ?_ ?_ k 0 (Nat.zero_le _) (by omega)
  ·simpa [twoB] using hh
  ·intro k' i hi
   have hx := wordsB_mem hw _ (rd_mem r i (by omega))
   simp only [spec_HartBytes.l0]
   rw [if_pos (by omega), if_pos (by omega), if_pos (by omega), Option.bind_some, if_pos (by rw [twoB_length, List.length_take]; simp; omega), wrap_succ (by omega), and255 _ hx.1 hx.2, rd_nat r i (by omega), show r[i] % 256 % 256 = r[i] % 256 by omega, ← twoB_snoc, snoc_step r i (by omega)]
  ·intro k'
   simp only [spec_HartBytes.l0]
   rw [if_neg (by omega), Option.bind_some, List.take_of_length_le (by omega), if_pos (by rw [twoB_length, ln]; show 2 * 4 + 2 < _; omega)]
 ·rw [if_neg h, if_neg h]
theorem and_range (x : Int) (m : Nat) (hm : m < 2 ^ 62) : 0 ≤ Go.bits .and .i64 x (m : Int) ∧ Go.bits .and .i64 x (m : Int) ≤ (m : Int) := by
 have h : (BitVec.ofInt 64 x &&& BitVec.ofInt 64 (m : Int)).toNat ≤ m := by
  rw [BitVec.toNat_and]
  refine Nat.le_trans Nat.and_le_right ?_
  rw [BitVec.ofInt_natCast, BitVec.toNat_ofNat]
  exact Nat.mod_le _ _
 have e : Go.bits .and .i64 x (m : Int) = (((BitVec.ofInt 64 x &&& BitVec.ofInt 64 (m : Int)).toNat : Nat) : Int) := by
  show IntKind.i64.wrap (((BitVec.ofInt 64 x &&& BitVec.ofInt 64 (m : Int)).toNat : Nat) : Int) = _
  exact wraps_i64 _ (by omega) (by omega)
 rw [e]; omega
def curOk (c : List Int) (i : Int) : Prop := c.length ≤ 1048576 ∧ 0 ≤ i ∧ i ≤ (c.length : Int)
theorem l1New_ex (c : List Int) (hc : c.length ≤ 1048576) (k : Nat) (hk : 4010 < k) : ∃ i s, spec_l1New.f k c = some (c, i, s) ∧ curOk c i := by
 unfold spec_l1New.f
 have h : ∀ (k j : Nat) (s : Int), j ≤ 4000 → 4000 < j + k → ∃ i s', spec_l1New.l0 k c s (j : Int) = some (c, i, s') ∧ curOk c i := by
  intro k
  induction k with
  | zero => intro j s h1 h2; omega
  | succ k ih =>
   intro j s h1 h2
   rw [spec_l1New.l0]
   by_cases h : (j : Int) < (c.length : Int)
   ·rw [if_pos h]
    by_cases h' : (j : Int) < 4000
    ·rw [if_pos h', if_pos (by omega), wrap_succ (by omega)]; exact ih _ _ (by omega) (by omega)
    ·rw [if_neg h']; exact ⟨_, _, rfl, hc, by omega, by omega⟩
   ·rw [if_neg h]; exact ⟨_, _, rfl, hc, by omega, by omega⟩
 exact h k 0 _ (by omega) (by omega)
theorem l1Byte_ex (c : List Int) (i s : Int) (h : curOk c i) : ∃ b i' s', spec_l1Byte.f c i s = some (b, i', s') ∧ 0 ≤ b ∧ b ≤ 255 ∧ curOk c i' := by
 unfold spec_l1Byte.f
 obtain ⟨h1, h2, h3⟩ := h
 by_cases hl : i < (c.length : Int)
 ·rw [if_pos hl, if_pos h2]
  have hr := fun x => and_range x 255 (by decide)
  exact ⟨_, _, _, rfl, (hr _).1, (hr _).2, h1, by unfold wrap64; omega, by unfold wrap64; omega⟩
 ·rw [if_neg hl]
  have hr := fun x => and_range x 255 (by decide)
  exact ⟨_, _, _, rfl, (hr _).1, (hr _).2, h1, h2, h3⟩
theorem l1Below_ex (c : List Int) (i s : Int) (h : curOk c i) (n : Int) (hn : 0 < n) (hb : n ≤ 4294967296) : ∃ v i' s', spec_l1Below.f c i s n = some (v, i', s') ∧ 0 ≤ v ∧ v < n ∧ curOk c i' := by
 unfold spec_l1Below.f
 rw [if_neg (by omega)]
 by_cases hs : n ≤ 256
 ·obtain ⟨b, i1, s1, e, h0, h1, hc⟩ := l1Byte_ex c i s h
  rw [if_pos hs, e, Option.bind_some, if_neg (by omega)]
  exact ⟨_, _, _, rfl, Int.tmod_nonneg _ h0, Int.tmod_lt_of_pos _ hn, hc⟩
 ·obtain ⟨b1, i1, s1, e1, p1, q1, c1⟩ := l1Byte_ex c i s h
  obtain ⟨b2, i2, s2, e2, p2, q2, c2⟩ := l1Byte_ex c i1 s1 c1
  obtain ⟨b3, i3, s3, e3, p3, q3, c3⟩ := l1Byte_ex c i2 s2 c2
  obtain ⟨b4, i4, s4, e4, p4, q4, c4⟩ := l1Byte_ex c i3 s3 c3
  rw [if_neg hs]
  simp only [e1, e2, e3, e4, Option.bind_some]
  rw [if_neg (by omega)]
  exact ⟨_, _, _, rfl, Int.tmod_nonneg _ (by unfold wrap64; omega), Int.tmod_lt_of_pos _ hn, c4⟩
theorem l1Once_ex (c : List Int) (i s : Int) (h : curOk c i) (n : Int) (hn : 0 < n) (hb : n ≤ 4294967296) : ∃ v i' s', spec_l1Once.f c i s n = some (v, i', s') ∧ curOk c i' := by
 unfold spec_l1Once.f
 obtain ⟨v, i1, s1, e, _, _, hc⟩ := l1Below_ex c i s h n hn hb
 rw [e, Option.bind_some]
 exact ⟨_, _, _, rfl, hc⟩
theorem l1PickInt_ex (c : List Int) (i s : Int) (h : curOk c i) (l : List Int) (h0 : 0 < l.length) (h1 : l.length ≤ 1000) : ∃ v i' s', spec_l1PickInt.f c i s l = some (v, i', s') ∧ v ∈ l ∧ curOk c i' := by
 unfold spec_l1PickInt.f
 obtain ⟨v, i1, s1, e, p, q, hc⟩ := l1Below_ex c i s h (l.length : Int) (by omega) (by omega)
 rw [e, Option.bind_some, if_pos p, if_pos q]
 refine ⟨_, _, _, rfl, ?_, hc⟩
 obtain ⟨j, rfl⟩ : ∃ j : Nat, v = (j : Int) := ⟨v.toNat, by omega⟩
 exact rd_mem l j (by omega)
theorem l8Has_ex (o : Int) (h0 : 1 ≤ o) (h1 : o ≤ 10) : ∃ v, spec_l8Has.f o = some v := by
 unfold spec_l8Has.f
 rw [l1In_eq, decide_eq_true ⟨h0, h1⟩, Option.bind_some, if_pos rfl, Option.bind_some, if_pos (by omega), if_pos (by simp; omega)]
 exact ⟨_, rfl⟩
theorem drawIns_j1 (x : Int) (c : List Int) (i s : Int) (h : curOk c i) (o r a b n : Int) (k : Nat) : ∃ o' r' a' b' n' i' s', spec_l8DrawIns.j1 (k + 1) x c i s o r a b n = some (o', r', a', b', n', i', s') ∧ curOk c i' := by
 rw [spec_l8DrawIns.j1]
 obtain ⟨v, i1, s1, e1, _, _, c1⟩ := l1Below_ex c i s h 4 (by omega) (by omega)
 obtain ⟨v2, i2, s2, e2, _, c2⟩ := l1PickInt_ex c i s h [0, 1, 2, 4, 8, 9, 12, 20, 23] (by simp) (by simp)
 obtain ⟨v3, i3, s3, e3, _, c3⟩ := l1PickInt_ex c i1 s1 c1 [0, 1, 2, 4, 8, 9, 12, 20, 23] (by simp) (by simp)
 by_cases h1 : Go.bits .and .i64 x 4 = 0
 ·rw [if_pos h1]
  by_cases h2 : Go.bits .and .i64 x 8 = 0
  ·rw [if_pos h2]; exact ⟨_, _, _, _, _, _, _, rfl, h⟩
  ·rw [if_neg h2, e2, Option.bind_some]; exact ⟨_, _, _, _, _, _, _, rfl, c2⟩
 ·rw [if_neg h1, e1, Option.bind_some]
  by_cases h2 : Go.bits .and .i64 x 8 = 0
  ·rw [if_pos h2]; exact ⟨_, _, _, _, _, _, _, rfl, c1⟩
  ·rw [if_neg h2]
   simp only [e3, Option.bind_some]; exact ⟨_, _, _, _, _, _, _, rfl, c3⟩
theorem drawIns_j0 (x : Int) (c : List Int) (i s : Int) (h : curOk c i) (o r a b n : Int) (k : Nat) : ∃ o' r' a' b' n' i' s', spec_l8DrawIns.j0 (k + 2) x c i s o r a b n = some (o', r', a', b', n', i', s') ∧ curOk c i' := by
 rw [spec_l8DrawIns.j0]
 obtain ⟨v, i1, s1, e1, _, _, c1⟩ := l1Below_ex c i s h 4 (by omega) (by omega)
 by_cases h1 : Go.bits .and .i64 x 2 = 0
 ·rw [if_pos h1]; exact drawIns_j1 x c i s h o r a b n k
 ·rw [if_neg h1, e1, Option.bind_some]; exact drawIns_j1 x c i1 s1 c1 o r v b n k
theorem drawIns_ex (c : List Int) (i s : Int) (h : curOk c i) (k : Nat) (hk : 2 ≤ k) : ∃ o r a b n i' s', spec_l8DrawIns.f k c i s = some (o, r, a, b, n, i', s') ∧ curOk c i' := by
 obtain ⟨k, rfl⟩ : ∃ m, k = m + 2 := ⟨k - 2, by omega⟩
 unfold spec_l8DrawIns.f
 obtain ⟨o, i1, s1, e1, ho, c1⟩ := l1PickInt_ex c i s h [1, 1, 2, 3, 3, 4, 4, 5, 5, 5, 6, 6, 7, 8, 9, 10] (by simp) (by simp)
 have ho' : 1 ≤ o ∧ o ≤ 10 := by simp at ho; omega
 obtain ⟨x, ex⟩ := l8Has_ex o ho'.1 ho'.2
 rw [e1, Option.bind_some]
 simp only [ex, Option.bind_some]
 by_cases h1 : Go.bits .and .i64 x 1 = 0
 ·rw [if_pos h1]; exact drawIns_j0 x c i1 s1 c1 o 0 0 0 0 k
 ·obtain ⟨v, i2, s2, e2, _, _, c2⟩ := l1Below_ex c i1 s1 c1 4 (by omega) (by omega)
  rw [if_neg h1, e2, Option.bind_some]; exact drawIns_j0 x c i2 s2 c2 o v 0 0 0 k
theorem sameInts_same (l : List Int) (hl : l.length ≤ 1048576) (k : Nat) (hk : 1048580 < k) : laws_sameInts.f k l l = some true := by
 unfold laws_sameInts.f
 rw [if_pos rfl]
 refine same_loop (C := 0) (n := l.length) (fun k i => laws_sameInts.l0 k l l (i : Int)) ?_ ?_ k (by omega)
 ·intro k i hi _
  simp only [laws_sameInts.l0]
  rw [if_pos (by omega), if_pos (by omega), if_pos (by omega), if_pos trivial, wrap_succ (by omega)]
 ·intro k
  simp only [laws_sameInts.l0]
  rw [if_neg (by omega)]
theorem implAddress_eq (n : Int) : impl_address.f n = some (n % 24) := by
 unfold impl_address.f
 have b := tmod_bd n 24 (by omega)
 rw [wrap_small (by omega) (by omega), tmod_up n 24 (by omega) (by omega)]
theorem implWrapped_eq (n : Int) : impl_wrapped.f n = some (n % 65536) := by
 unfold impl_wrapped.f
 have b := tmod_bd n 65536 (by omega)
 rw [wrap_small (x := Int.tmod n 65536 + 65535) (by omega) (by omega), wrap_small (by omega) (by omega), show Int.tmod n 65536 + 65535 + 1 = Int.tmod n 65536 + 65536 by omega, tmod_up n 65536 (by omega) (by omega)]
def opV (r : List Int) (pc st : Int) (o i a b n got : Int) : List Int × Int × Int × Int :=
 if o = 1 then (r.set i.toNat n, (pc + 1) % 24, st, -1)
 else if o = 2 then (r.set i.toNat ((rd r a + rd r b) % 65536), (pc + 1) % 24, st, -1)
 else if o = 10 then (r.set i.toNat ((rd r a - rd r b) % 65536), (pc + 1) % 24, st, -1)
 else if o = 3 then (r.set i.toNat ((rd r a + n) % 65536), (pc + 1) % 24, st, -1)
 else if o = 4 then (r.set i.toNat got, (pc + 1) % 24, st, -1)
 else if o = 5 then (r, (pc + 1) % 24, st, rd r b)
 else if o = 6 then (r.set i.toNat got, (pc + 1) % 24, st, (got + rd r b) % 65536)
 else if o = 7 then (if rd r a = 0 then (r, n % 24, st, -1) else (r, (pc + 1) % 24, st, -1))
 else if o = 8 then (r, n % 24, st, -1)
 else if o = 9 then (r, pc, 1, -1)
 else (r, (pc + 1) % 24, st, -1)
def workV (r : List Int) (pc st : Int) (o i a b n got : Int) : List Int × Int × Int × Int :=
 if hartB r pc st = true ∧ st = 0 ∧ (0 ≤ got ∧ got ≤ 65535) then (if insOkB o i a b n = true then opV r pc st o i a b n got else (r, pc, 2, -1)) else (r, pc, st, -1)
theorem hartB_parts {r : List Int} {p s : Int} (h : hartB r p s = true) : r.length = 4 ∧ (∀ x, x ∈ r → 0 ≤ x ∧ x ≤ 65535) ∧ (0 ≤ p ∧ p ≤ 23) ∧ (0 ≤ s ∧ s ≤ 2) := by
 have l := hartB_len h
 unfold hartB at h; rw [Bool.and_eq_true, Bool.and_eq_true] at h
 exact ⟨l, fun x hx => wordsB_mem h.1 x hx, of_decide_eq_true h.2.1, of_decide_eq_true h.2.2⟩
theorem rd_word {r : List Int} (hw : ∀ x, x ∈ r → 0 ≤ x ∧ x ≤ 65535) (i : Int) : 0 ≤ rd r i ∧ rd r i ≤ 65535 := by
 unfold rd
 rw [List.getD_eq_getElem?_getD]
 cases h : r[i.toNat]? with
 | none => simp
 | some x => exact hw x (List.mem_of_getElem? h)
theorem implWork_j2 (k : Nat) (r : List Int) (pc st o i a b n got : Int) (hr : r.length = 4) (hw : ∀ x, x ∈ r → 0 ≤ x ∧ x ≤ 65535) (hg : 0 ≤ got ∧ got ≤ 65535) (hi : 0 ≤ i ∧ i ≤ 3) (hn : 0 ≤ n ∧ n ≤ 63) :
  impl_Work.j2 (k + 2) got (rd r a) (rd r b) (-1) ((pc + 1) % 24) o r pc st o i a b n = some (opV r pc st o i a b n got) := by
 have wa := rd_word hw a
 have wb := rd_word hw b
 rw [impl_Work.j2]
 unfold opV
 rw [wrap_small (x := rd r a + rd r b) (by omega) (by omega), wrap_small (x := rd r a - rd r b) (by omega) (by omega), wrap_small (x := rd r a + n) (by omega) (by omega), wrap_small (x := got + rd r b) (by omega) (by omega)]
 simp only [implWrapped_eq, implAddress_eq, Option.bind_some]
 have h1 : i < (r.length : Int) := by omega
 simp only [if_pos hi.1, if_pos h1]
 by_cases c1 : o = 1
 ·rw [if_pos c1, if_pos c1]
  all_goals (try rw [impl_Work.j3])
 rw [if_neg c1, if_neg c1]
 by_cases c2 : o = 2
 ·rw [if_pos c2, if_pos c2]
  all_goals (try rw [impl_Work.j3])
 rw [if_neg c2, if_neg c2]
 by_cases c3 : o = 10
 ·rw [if_pos c3, if_pos c3]
  all_goals (try rw [impl_Work.j3])
 rw [if_neg c3, if_neg c3]
 by_cases c4 : o = 3
 ·rw [if_pos c4, if_pos c4]
  all_goals (try rw [impl_Work.j3])
 rw [if_neg c4, if_neg c4]
 by_cases c5 : o = 4
 ·rw [if_pos c5, if_pos c5]
  all_goals (try rw [impl_Work.j3])
 rw [if_neg c5, if_neg c5]
 by_cases c6 : o = 5
 ·rw [if_pos c6, if_pos c6]
  all_goals (try rw [impl_Work.j3])
 rw [if_neg c6, if_neg c6]
 by_cases c7 : o = 6
 ·rw [if_pos c7, if_pos c7]
  all_goals (try rw [impl_Work.j3])
 rw [if_neg c7, if_neg c7]
 by_cases c8 : o = 7
 ·rw [if_pos c8, if_pos c8]
  by_cases c : rd r a = 0
  ·rw [if_pos c, if_pos c]
   all_goals (try rw [impl_Work.j3])
  ·rw [if_neg c, if_neg c]
   all_goals (try rw [impl_Work.j3])
 rw [if_neg c8, if_neg c8]
 by_cases c9 : o = 8
 ·rw [if_pos c9, if_pos c9]
  all_goals (try rw [impl_Work.j3])
 rw [if_neg c9, if_neg c9]
 by_cases c10 : o = 9
 ·rw [if_pos c10, if_pos c10]
  all_goals (try rw [impl_Work.j3])
 rw [if_neg c10, if_neg c10]
 all_goals (try rw [impl_Work.j3])
theorem implWork_eq (r : List Int) (pc st o i a b n got : Int) (hl : r.length ≤ 2097152) (k : Nat) (hk : r.length + 10 < k) : impl_Work.f k r pc st o i a b n got = some (workV r pc st o i a b n got) := by
 obtain ⟨k, rfl⟩ : ∃ m, k = m + 4 := ⟨k - 4, by omega⟩
 unfold impl_Work.f impl_copyHart.f slices_Clone_int_int.f workV
 rw [if_pos (by omega), Option.bind_some, Option.bind_some]
 simp only [implHartOk_eq r pc st (by omega) (k + 4) (by omega), Option.bind_some]
 have jt : impl_Work.j0 (k + 4) got true r pc st o i a b n = some (r, pc, st, -1) := by rw [impl_Work.j0, if_pos rfl]
 by_cases h : hartB r pc st = true
 ·obtain ⟨p1, p2, p3, p4⟩ := hartB_parts h
  rw [if_pos h]
  by_cases hs : st = 0
  ·rw [if_pos hs, isWord_eq, Option.bind_some]
   by_cases hg : 0 ≤ got ∧ got ≤ 65535
   ·rw [if_pos ⟨h, hs, hg⟩, decide_eq_true hg, Bool.not_true, impl_Work.j0, if_neg (by simp)]
    unfold impl_InsOk.f
    rw [Option.bind_some]
    by_cases hi : insOkB o i a b n = true
    ·obtain ⟨b0, b0', b1, b1', b2, b2', b3, b3', b4, b4'⟩ := insOkB_bounds hi
     rw [if_pos hi, hi, Bool.not_true, impl_Work.j1, if_neg (by simp), if_pos b2, if_pos (by omega), if_pos b3, if_pos (by omega), implAddress_eq, Option.bind_some, wrap_small (x := pc + 1) (by omega) (by omega)]
     exact implWork_j2 k r pc st o i a b n got p1 p2 hg ⟨b1, b1'⟩ ⟨b4, b4'⟩
    ·have hi' : insOkB o i a b n = false := by simpa using hi
     rw [if_neg hi, hi', Bool.not_false, impl_Work.j1, if_pos rfl]
   ·rw [if_neg (fun c => hg c.2.2), decide_eq_false hg, Bool.not_false, jt]
  ·rw [if_neg hs, jt, if_neg (fun c => hs c.2.1)]
 ·rw [if_neg h, jt, if_neg (fun c => h c.1)]
def decodeB (w : Int) : Bool := decide (0 ≤ w ∧ w ≤ 65535) && insOkB (w % 16) (w / 16 % 4) (w / 64 % 4) (w / 256 % 4) (w / 1024)
def decodeV (w : Int) : Int × Int × Int × Int × Int × Bool := if decodeB w = true then (w % 16, w / 16 % 4, w / 64 % 4, w / 256 % 4, w / 1024, true) else (0, 0, 0, 0, 0, false)
theorem implDecode_eq (w : Int) : impl_Decode.f w = some (decodeV w) := by
 unfold impl_Decode.f decodeV decodeB impl_InsOk.f
 rw [isWord_eq, Option.bind_some]
 by_cases h : 0 ≤ w ∧ w ≤ 65535
 ·rw [decide_eq_true h, if_pos rfl, Bool.true_and]
  have e1 : Int.tmod w 16 = w % 16 := tmod_pos _ _ h.1
  have e2 : Int.tmod (wrap64 (Int.tdiv w 16)) 4 = w / 16 % 4 := by rw [tdiv_pos _ _ h.1, wrap_small (by omega) (by omega), tmod_pos _ _ (by omega)]
  have e3 : Int.tmod (wrap64 (Int.tdiv w 64)) 4 = w / 64 % 4 := by rw [tdiv_pos _ _ h.1, wrap_small (by omega) (by omega), tmod_pos _ _ (by omega)]
  have e4 : Int.tmod (wrap64 (Int.tdiv w 256)) 4 = w / 256 % 4 := by rw [tdiv_pos _ _ h.1, wrap_small (by omega) (by omega), tmod_pos _ _ (by omega)]
  have e5 : wrap64 (Int.tdiv w 1024) = w / 1024 := by rw [tdiv_pos _ _ h.1, wrap_small (by omega) (by omega)]
  rw [e1, e2, e3, e4, e5, Option.bind_some]
  by_cases c : insOkB (w % 16) (w / 16 % 4) (w / 64 % 4) (w / 256 % 4) (w / 1024) = true
  ·rw [if_pos c, if_pos c]
  ·rw [if_neg c, if_neg c]
 ·rw [decide_eq_false h, if_neg (by simp), Bool.false_and, if_neg (by simp)]
def targetV (o i a b n : Int) (r : List Int) : Int := if insOkB o i a b n = true ∧ (o = 4 ∨ o = 5 ∨ o = 6) ∧ r.length = 4 then wrap64 (rd r a + n) % 24 else -1
theorem implTarget_eq (o i a b n : Int) (r : List Int) : impl_Target.f o i a b n r = some (targetV o i a b n r) := by
 unfold impl_Target.f targetV impl_InsOk.f impl_aims.f
 rw [Option.bind_some]
 by_cases h : insOkB o i a b n = true
 ·have hb := insOkB_bounds h
  rw [if_pos h]
  have ha : (if o = 4 then some true else if o = 5 then some true else some (o == 6)) = some (decide (o = 4 ∨ o = 5 ∨ o = 6)) := by
   by_cases c4 : o = 4
   ·rw [if_pos c4, decide_eq_true (.inl c4)]
   ·rw [if_neg c4]
    by_cases c5 : o = 5
    ·rw [if_pos c5, decide_eq_true (.inr (.inl c5))]
    ·rw [if_neg c5]; congr 1; rw [Bool.eq_iff_iff]; simp [c4, c5]
  rw [ha, Option.bind_some]
  by_cases c : o = 4 ∨ o = 5 ∨ o = 6
  ·rw [decide_eq_true c, if_pos rfl]
   by_cases hl : r.length = 4
   ·rw [if_pos (by omega), if_pos (by omega), if_pos (by omega), implAddress_eq, Option.bind_some, if_pos ⟨h, c, hl⟩]
   ·rw [if_neg (by omega), if_neg (fun x => hl x.2.2)]
  ·rw [decide_eq_false c, if_neg (by simp), if_neg (fun x => c x.2.1)]
 ·rw [if_neg h, if_neg (fun x => h x.1)]
abbrev Hh := S47
def hB (h : Hh) : Bool := hartB h.f0 h.f1 h.f2
def gotV (m : List Int) (h : Hh) : Int := if 0 ≤ targetV (decodeV (rd m h.f1)).1 (decodeV (rd m h.f1)).2.1 (decodeV (rd m h.f1)).2.2.1 (decodeV (rd m h.f1)).2.2.2.1 (decodeV (rd m h.f1)).2.2.2.2.1 h.f0 then rd m (targetV (decodeV (rd m h.f1)).1 (decodeV (rd m h.f1)).2.1 (decodeV (rd m h.f1)).2.2.1 (decodeV (rd m h.f1)).2.2.2.1 (decodeV (rd m h.f1)).2.2.2.2.1 h.f0) else 0
def tgtV (m : List Int) (h : Hh) : Int := targetV (decodeV (rd m h.f1)).1 (decodeV (rd m h.f1)).2.1 (decodeV (rd m h.f1)).2.2.1 (decodeV (rd m h.f1)).2.2.2.1 (decodeV (rd m h.f1)).2.2.2.2.1 h.f0
def wkV (m : List Int) (h : Hh) : List Int × Int × Int × Int := workV h.f0 h.f1 h.f2 (decodeV (rd m h.f1)).1 (decodeV (rd m h.f1)).2.1 (decodeV (rd m h.f1)).2.2.1 (decodeV (rd m h.f1)).2.2.2.1 (decodeV (rd m h.f1)).2.2.2.2.1 (gotV m h)
def stepV (m : List Int) (h : Hh) : List Int × Hh := (if 0 ≤ (wkV m h).2.2.2 then m.set (tgtV m h).toNat (wkV m h).2.2.2 else m, ⟨(wkV m h).1, (wkV m h).2.1, (wkV m h).2.2.1⟩)
theorem tgt_range (o i a b n : Int) (r : List Int) : targetV o i a b n r = -1 ∨ 0 ≤ targetV o i a b n r ∧ targetV o i a b n r ≤ 23 := by
 unfold targetV
 by_cases h : insOkB o i a b n = true ∧ (o = 4 ∨ o = 5 ∨ o = 6) ∧ r.length = 4
 ·rw [if_pos h]; right; omega
 ·rw [if_neg h]; left; rfl
theorem put_tgt {r : List Int} {pc st o i a b n got : Int} (h : 0 ≤ (workV r pc st o i a b n got).2.2.2) : 0 ≤ targetV o i a b n r := by
 unfold workV at h
 by_cases c : hartB r pc st = true ∧ st = 0 ∧ (0 ≤ got ∧ got ≤ 65535)
 ·rw [if_pos c] at h
  by_cases hi : insOkB o i a b n = true
  ·rw [if_pos hi] at h
   have hl := hartB_len c.1
   unfold targetV
   by_cases c5 : o = 5
   ·rw [if_pos ⟨hi, .inr (.inl c5), hl⟩]; omega
   ·by_cases c6 : o = 6
    ·rw [if_pos ⟨hi, .inr (.inr c6), hl⟩]; omega
    ·exfalso
     unfold opV at h
     rw [if_neg c5, if_neg c6] at h
     revert h
     split
     ·simp
     split
     ·simp
     split
     ·simp
     split
     ·simp
     split
     ·simp
     split
     ·split <;> simp
     split
     ·simp
     split <;> simp
  ·rw [if_neg hi] at h; simp at h
 ·rw [if_neg c] at h; simp at h
theorem implStep_eq (m : List Int) (h : Hh) (hm : m.length = 24) (hh : hB h = true) (k : Nat) (hk : 20 < k) : impl_step.f k m h.f0 h.f1 h.f2 = some ((stepV m h).2.f0, (stepV m h).2.f1, (stepV m h).2.f2, (stepV m h).1) := by
 obtain ⟨p1, p2, p3, p4⟩ := hartB_parts hh
 unfold impl_step.f stepV
 rw [if_pos p3.1, if_pos (by omega), implDecode_eq, Option.bind_some]
 simp only [implTarget_eq, Option.bind_some]
 rcases tgt_range (decodeV (rd m h.f1)).1 (decodeV (rd m h.f1)).2.1 (decodeV (rd m h.f1)).2.2.1 (decodeV (rd m h.f1)).2.2.2.1 (decodeV (rd m h.f1)).2.2.2.2.1 h.f0 with t | t
 ·rw [if_neg (by omega), implWork_eq _ _ _ _ _ _ _ _ _ (by omega) k (by omega), Option.bind_some]
  have e : gotV m h = 0 := by unfold gotV; rw [if_neg (by omega)]
  unfold wkV; rw [e]
  by_cases c : 0 ≤ (workV h.f0 h.f1 h.f2 (decodeV (rd m h.f1)).1 (decodeV (rd m h.f1)).2.1 (decodeV (rd m h.f1)).2.2.1 (decodeV (rd m h.f1)).2.2.2.1 (decodeV (rd m h.f1)).2.2.2.2.1 0).2.2.2
  ·have := put_tgt c; omega
  ·rw [if_neg c, if_neg c]
 ·have e : gotV m h = rd m (tgtV m h) := by unfold gotV tgtV; rw [if_pos t.1]
  rw [if_pos t.1, if_pos t.1, if_pos (by omega), implWork_eq _ _ _ _ _ _ _ _ _ (by omega) k (by omega), Option.bind_some]
  unfold wkV; rw [e]; unfold tgtV
  by_cases c : 0 ≤ (workV h.f0 h.f1 h.f2 (decodeV (rd m h.f1)).1 (decodeV (rd m h.f1)).2.1 (decodeV (rd m h.f1)).2.2.1 (decodeV (rd m h.f1)).2.2.2.1 (decodeV (rd m h.f1)).2.2.2.2.1 (rd m (targetV (decodeV (rd m h.f1)).1 (decodeV (rd m h.f1)).2.1 (decodeV (rd m h.f1)).2.2.1 (decodeV (rd m h.f1)).2.2.2.1 (decodeV (rd m h.f1)).2.2.2.2.1 h.f0))).2.2.2
  ·rw [if_pos c, if_pos c]
  ·rw [if_neg c, if_neg c]
theorem rdH (l : List Hh) (i : Nat) (h : i < l.length) : rd_T47 l (i : Int) = l[i] := by
 unfold rd_T47; simp [List.getD, h]
def shortH (l : List Hh) : Prop := ∀ h, h ∈ l → h.f0.length ≤ 2097152
theorem copyHarts_eq (l : List Hh) (hl : l.length ≤ 2097152) (hb : shortH l) (k : Nat) (hk : l.length < k) : impl_copyHarts.f k l = some l := by
 unfold impl_copyHarts.f
 have h := for_st l.length (fun k i (s : List Hh) => impl_copyHarts.l0 k s l (l.length : Int) (i : Int)) (fun i => l.take i) l ?_ ?_ k 0 (Nat.zero_le _) (by omega)
 ·simpa using h
 ·intro k i hi
  simp only [impl_copyHarts.l0]
  have hx := hb _ (List.getElem_mem hi)
  rw [if_pos (by omega), if_pos (by omega), if_pos (by omega), rdH l i hi]
  unfold impl_copyHart.f slices_Clone_int_int.f
  rw [if_pos (by omega), Option.bind_some, Option.bind_some, if_pos (by simp; omega), wrap_succ (by omega), ← snoc_step l i hi]
 ·intro k
  simp only [impl_copyHarts.l0]
  rw [if_neg (by omega), List.take_of_length_le (Nat.le_refl _)]
def goB (h : Hh) : Bool := hB h && (h.f2 == 0)
theorem implGoes_eq (h : Hh) (hl : h.f0.length ≤ 2097152) (k : Nat) (hk : h.f0.length < k) : impl_goes.f k h.f0 h.f1 h.f2 = some (goB h) := by
 unfold impl_goes.f goB hB
 rw [implHartOk_eq _ _ _ hl k hk, Option.bind_some]
 cases hartB h.f0 h.f1 h.f2 <;> rfl
def mayGo (hs : List Hh) (i : Int) : Prop := 0 ≤ i ∧ i < (hs.length : Int) ∧ goB (rd_T47 hs i) = true
instance (hs : List Hh) (i : Int) : Decidable (mayGo hs i) := by unfold mayGo; infer_instance
def nextV (s : List Int × List Hh) (i : Int) : List Int × List Hh := if mayGo s.2 i then ((stepV s.1 (rd_T47 s.2 i)).1, s.2.set i.toNat (stepV s.1 (rd_T47 s.2 i)).2) else s
def runV (m : List Int) (hs : List Hh) (order : List Int) : List Int × List Hh := order.foldl nextV (m, hs)
theorem stepV_len (m : List Int) (h : Hh) : (stepV m h).1.length = m.length := by
 unfold stepV; dsimp only; split
 ·rw [List.length_set]
 ·rfl
theorem nextV_len (s : List Int × List Hh) (i : Int) : (nextV s i).1.length = s.1.length ∧ (nextV s i).2.length = s.2.length := by
 unfold nextV; split
 ·exact ⟨stepV_len _ _, by rw [List.length_set]⟩
 ·exact ⟨rfl, rfl⟩
theorem stepV_short (m : List Int) (h : Hh) (hl : h.f0.length ≤ 2097152) : (stepV m h).2.f0.length ≤ 2097152 := by
 unfold stepV wkV; dsimp only
 unfold workV; split
 ·split
  ·unfold opV
   split
   ·rw [List.length_set]; exact hl
   split
   ·rw [List.length_set]; exact hl
   split
   ·rw [List.length_set]; exact hl
   split
   ·rw [List.length_set]; exact hl
   split
   ·rw [List.length_set]; exact hl
   split
   ·exact hl
   split
   ·rw [List.length_set]; exact hl
   split
   ·split <;> exact hl
   split
   ·exact hl
   split <;> exact hl
  ·exact hl
 ·exact hl
theorem rdH_mem (l : List Hh) (i : Int) (h0 : 0 ≤ i) (h1 : i < (l.length : Int)) : rd_T47 l i ∈ l := by
 obtain ⟨j, rfl⟩ : ∃ j : Nat, i = (j : Int) := ⟨i.toNat, by omega⟩
 rw [rdH l j (by omega)]; exact List.getElem_mem _
theorem nextV_short (s : List Int × List Hh) (i : Int) (h : shortH s.2) : shortH (nextV s i).2 := by
 unfold nextV; split
 ·rename_i c
  intro x hx
  rcases List.mem_or_eq_of_mem_set hx with hx | rfl
  ·exact h x hx
  ·exact stepV_short _ _ (h _ (rdH_mem _ _ c.1 c.2.1))
 ·exact h
theorem runV_snoc (m : List Int) (hs : List Hh) (o : List Int) (i : Int) : runV m hs (o ++ [i]) = nextV (runV m hs o) i := by unfold runV; rw [List.foldl_append]; rfl
theorem runV_len (m : List Int) (hs : List Hh) (o : List Int) : (runV m hs o).1.length = m.length ∧ (runV m hs o).2.length = hs.length := by
 have g : ∀ (o : List Int) s, ((o.foldl nextV s).1).length = s.1.length ∧ ((o.foldl nextV s).2).length = s.2.length := by
  intro o
  induction o with
  | nil => exact fun s => ⟨rfl, rfl⟩
  | cons i o ih => intro s; have h := ih (nextV s i); have h2 := nextV_len s i; exact ⟨h.1.trans h2.1, h.2.trans h2.2⟩
 exact g o (m, hs)
theorem runV_short (m : List Int) (hs : List Hh) (o : List Int) (h : shortH hs) : shortH (runV m hs o).2 := by
 have g : ∀ (o : List Int) s, shortH s.2 → shortH (o.foldl nextV s).2 := by
  intro o
  induction o with
  | nil => exact fun s h => h
  | cons i o ih => intro s h; exact ih _ (nextV_short s i h)
 exact g o (m, hs) h
theorem flat_loop (o : List Int) (ho : o.length ≤ 2000) (m : List Int) (hs : List Hh) (hm : m.length = 24) (hn : hs.length ≤ 2097152) (hb : shortH hs) (k : Nat) (hk : 3000000 < k) : impl_FlatRun.l0 k m hs o (o.length : Int) 0 = some (runV m hs o) := by
 obtain ⟨C, hC⟩ : ∃ C : Nat, C = 2200000 := ⟨_, rfl⟩
 have h := for_st o.length (fun k' i (s : List Int × List Hh) => impl_FlatRun.l0 (k' + C) s.1 s.2 o (o.length : Int) (i : Int)) (fun i => runV m hs (o.take i)) (runV m hs o) ?_ ?_ (k - C) 0 (Nat.zero_le _) (by omega)
 ·rw [show k - C + C = k by omega] at h; simp only [List.take_zero] at h; exact h
 ·intro k' i hi
  rw [show k' + 1 + C = (k' + C) + 1 by omega]
  generalize hs0 : runV m hs (o.take i) = s
  have e : runV m hs (o.take (i + 1)) = nextV s o[i] := by rw [← snoc_step o i hi, runV_snoc, hs0]
  have hl := runV_len m hs (o.take i)
  have hsh := runV_short m hs (o.take i) hb
  rw [hs0] at hl hsh
  rw [e]
  simp only [impl_FlatRun.l0]
  rw [if_pos (by omega), if_pos (by omega), if_pos (by omega), rd_nat o i hi, from_eq, Option.bind_some, wrap_succ (by omega), wrap_small (by omega) (by omega)]
  unfold nextV
  by_cases c : 0 ≤ o[i] ∧ o[i] ≤ (s.2.length : Int) - 1
  ·rw [if_pos (decide_eq_true c), if_pos c.1, if_pos (by omega), implGoes_eq _ (hsh _ (rdH_mem _ _ c.1 (by omega))) _ (by have := hsh _ (rdH_mem _ _ c.1 (by omega : o[i] < (s.2.length : Int))); omega), Option.bind_some]
   by_cases g : goB (rd_T47 s.2 o[i]) = true
   ·have g2 : hB (rd_T47 s.2 o[i]) = true := by unfold goB at g; rw [Bool.and_eq_true] at g; exact g.1
    rw [if_pos g, implStep_eq _ _ (by omega) g2 _ (by omega), Option.bind_some, if_pos ⟨c.1, by omega, g⟩]
   ·rw [if_neg g, if_neg (fun x => g x.2.2)]
  ·rw [if_neg (by simpa using c), if_neg (fun x => c ⟨x.1, by have := x.2.1; omega⟩)]
 ·intro k'
  rw [show k' + 1 + C = (k' + C) + 1 by omega]
  simp only [impl_FlatRun.l0]
  rw [if_neg (by omega), List.take_of_length_le (Nat.le_refl _)]
theorem implFlatRun_eq (m : List Int) (hs : List Hh) (o : List Int) (hm : m.length ≤ 2097152) (hn : hs.length ≤ 2097152) (hb : shortH hs) (k : Nat) (hk : 3000002 < k) :
  impl_FlatRun.f k m hs o = some (if o.length ≤ 2000 ∧ wordsB m 24 = true then runV m hs o else (m, hs)) := by
 obtain ⟨k, rfl⟩ : ∃ j, k = j + 1 := ⟨k - 1, by omega⟩
 unfold impl_FlatRun.f slices_Clone_int_int.f
 rw [if_pos (by omega), Option.bind_some, copyHarts_eq hs hn hb _ (by omega), Option.bind_some]
 have jt : impl_FlatRun.j0 (k + 1) m hs o true = some (m, hs) := by rw [impl_FlatRun.j0, if_pos rfl]
 by_cases ho : (o.length : Int) > 2000
 ·rw [if_pos ho, jt, if_neg (fun c => by omega)]
 ·rw [if_neg ho, memOk_eq m hm _ (by omega), Option.bind_some]
  by_cases w : wordsB m 24 = true
  ·rw [w, Bool.not_true, impl_FlatRun.j0, if_neg (by simp), flat_loop o (by omega) m hs (wordsB_24 w) hn hb k (by omega), if_pos ⟨by omega, rfl⟩]
  ·have w' : wordsB m 24 = false := by simpa using w
   rw [w', Bool.not_false, jt, if_neg (fun c => by simpa using c.2)]
theorem at_ex (l : List Int) (hl : l.length ≤ 1048576) (hb : ∀ x, x ∈ l → 0 ≤ x ∧ x ≤ 255) (i : Nat) (hi : i ≤ 1000) : ∃ v, laws_at.f l (i : Int) = some v ∧ 0 ≤ v := by
 unfold laws_at.f
 by_cases c : (i : Int) < (l.length : Int)
 ·rw [if_pos c, if_pos (by omega)]
  have := hb _ (rd_mem l i (by omega))
  exact ⟨_, rfl, by rw [wrap_small (by omega) (by omega)]; exact this.1⟩
 ·rw [if_neg c]
  rw [wrap_small (x := (i : Int) * 7) (by omega) (by omega), wrap_small (by omega) (by omega), tmod_pos _ _ (by omega)]
  exact ⟨_, rfl, by omega⟩
theorem bytes_of_wf {l : List Int} (h : ∀ x ∈ l, (Lit.int .u8 x).wf = true) : ∀ x, x ∈ l → 0 ≤ x ∧ x ≤ 255 := by
 intro x hx
 have := h x hx
 have e1 : IntKind.u8.min = 0 := by decide
 have e2 : IntKind.u8.max = 255 := by decide
 simp [Lit.wf, e1, e2] at this
 omega
theorem rdHrt (l : List S47) (i : Nat) (h : i < l.length) : rd_T47 l (i : Int) = l[i] := by
 unfold rd_T47; simp [List.getD, h]
def hOk (h : S47) : Bool := hartB h.f0 h.f1 h.f2
def hBy (h : S47) : List Int := twoB h.f0 ++ [h.f1 % 256, h.f2 % 256]
theorem hBy_length (h : S47) (c : hOk h = true) : (hBy h).length = 10 := by unfold hBy; rw [List.length_append, twoB_length, hartB_len c]; rfl
def saveB (m : List Int) (hs : List S47) : List Int := if wordsB m 24 = true ∧ hs.length ≤ 8 ∧ hs.all hOk = true then ((hs.length : Int) % 256) :: (twoB m ++ hs.flatMap hBy) else []
theorem implSaveB_l (hs : List S47) (hx : ∀ h ∈ hs, h.f0.length ≤ 1048576) (hn : hs.length ≤ 8) : ∀ (d i : Nat) (acc : List Int) (k : Nat), i + d = hs.length → acc.length ≤ 100 + 10 * i → 2097160 + d < k →
  impl_SaveBytes.l0 k acc hs (hs.length : Int) (i : Int) = some (if (hs.drop i).all hOk = true then acc ++ (hs.drop i).flatMap hBy else [])
 | 0, i, acc, k, hi, ha, hk => by
  obtain ⟨k, rfl⟩ : ∃ m, k = m + 1 := ⟨k - 1, by omega⟩
  rw [impl_SaveBytes.l0, if_neg (by omega), List.drop_of_length_le (by omega)]; simp
 | d + 1, i, acc, k, hi, ha, hk => by
  obtain ⟨k, rfl⟩ : ∃ m, k = m + 1 := ⟨k - 1, by omega⟩
  have hd : hs.drop i = hs[i] :: hs.drop (i + 1) := List.drop_eq_getElem_cons (by omega)
  have hl := hx _ (List.getElem_mem (by omega : i < hs.length))
  rw [impl_SaveBytes.l0, if_pos (by omega), if_pos (by omega), if_pos (by omega), rdHrt hs i (by omega), implHartOk_eq _ _ _ (by omega) k (by omega), Option.bind_some, hd, List.all_cons, List.flatMap_cons]
  by_cases c : hOk hs[i] = true
  ·have c' : hartB hs[i].f0 hs[i].f1 hs[i].f2 = true := c
   have e : hartBytesV hs[i].f0 hs[i].f1 hs[i].f2 = hBy hs[i] := by unfold hartBytesV; rw [if_pos c']; rfl
   have hb := hBy_length _ c
   rw [if_pos c', implHartBytes_eq _ _ _ hl k (by omega), Option.bind_some, e, if_pos (by omega), wrap_succ (by omega), implSaveB_l hs hx hn d (i + 1) _ k (by omega) (by rw [List.length_append, hb]; omega) (by omega), c, Bool.true_and, List.append_assoc]
  ·have c' : ¬ hartB hs[i].f0 hs[i].f1 hs[i].f2 = true := c
   have c2 : hOk hs[i] = false := by simpa using c
   rw [if_neg c', c2, Bool.false_and]; rfl
theorem implSaveBytes_eq (m : List Int) (hs : List S47) (hm : m.length ≤ 1048576) (hx : ∀ h ∈ hs, h.f0.length ≤ 1048576) (hl : hs.length ≤ 1048576) (k : Nat) (hk : 2200000 < k) : impl_SaveBytes.f k m hs = some (saveB m hs) := by
 obtain ⟨k, rfl⟩ : ∃ m, k = m + 1 := ⟨k - 1, by omega⟩
 unfold impl_SaveBytes.f saveB
 rw [memOk_eq m (by omega) _ (by omega), Option.bind_some]
 by_cases hw : wordsB m 24 = true
 ·rw [if_pos hw]
  by_cases hn : hs.length ≤ 8
  ·rw [decide_eq_false (by omega), impl_SaveBytes.j0, if_neg (by simp), Option.bind_some, implMemBytes_eq m (by omega) k (by omega), Option.bind_some]
   have e : memB m = twoB m := by unfold memB; rw [if_pos hw]
   have l24 := wordsB_24 hw
   rw [e, if_pos (by rw [twoB_length, l24]; show 1 + 2 * 24 < _; omega)]
   have h := implSaveB_l hs hx hn hs.length 0 ([(hs.length : Int) % 256] ++ twoB m) k (by omega) (by rw [List.length_append, twoB_length, l24]; show 1 + 2 * 24 ≤ _; omega) (by omega)
   simp only [List.drop_zero] at h
   have h' : impl_SaveBytes.l0 k ([(hs.length : Int) % 256] ++ twoB m) hs (hs.length : Int) 0 = _ := h
   rw [h']
   by_cases c : hs.all hOk = true
   ·rw [if_pos c, if_pos ⟨hw, hn, c⟩]; simp
   ·rw [if_neg c, if_neg (fun hh => c hh.2.2)]
  ·rw [decide_eq_true (by omega), impl_SaveBytes.j0, if_pos rfl, if_neg (fun hh => hn hh.2.1)]
 ·rw [if_neg hw, impl_SaveBytes.j0, if_pos rfl, if_neg (fun hh => hw hh.1)]
theorem specSaveB_l (hs : List S47) (hx : ∀ h ∈ hs, h.f0.length ≤ 1048576) (hn : hs.length ≤ 8) : ∀ (d i : Nat) (acc : List Int) (k : Nat), i + d = hs.length → acc.length ≤ 100 + 10 * i → 2097160 + d < k →
  spec_SaveBytes.l0 k hs acc (i : Int) = some (if (hs.drop i).all hOk = true then acc ++ (hs.drop i).flatMap hBy else [])
 | 0, i, acc, k, hi, ha, hk => by
  obtain ⟨k, rfl⟩ : ∃ m, k = m + 1 := ⟨k - 1, by omega⟩
  rw [spec_SaveBytes.l0, if_neg (by omega), List.drop_of_length_le (by omega)]; simp
 | d + 1, i, acc, k, hi, ha, hk => by
  obtain ⟨k, rfl⟩ : ∃ m, k = m + 1 := ⟨k - 1, by omega⟩
  have hd : hs.drop i = hs[i] :: hs.drop (i + 1) := List.drop_eq_getElem_cons (by omega)
  have hl := hx _ (List.getElem_mem (by omega : i < hs.length))
  rw [spec_SaveBytes.l0, if_pos (by omega), if_pos (by omega), rdHrt hs i (by omega), specHartBytes_eq _ _ _ hl k (by omega), Option.bind_some, hd, List.all_cons, List.flatMap_cons]
  by_cases c : hOk hs[i] = true
  ·have c' : hartB hs[i].f0 hs[i].f1 hs[i].f2 = true := c
   have e : hartBytesV hs[i].f0 hs[i].f1 hs[i].f2 = hBy hs[i] := by unfold hartBytesV; rw [if_pos c']; rfl
   have hb := hBy_length _ c
   rw [e, if_neg (by omega), if_pos (by omega), wrap_succ (by omega), specSaveB_l hs hx hn d (i + 1) _ k (by omega) (by rw [List.length_append, hb]; omega) (by omega), c, Bool.true_and, List.append_assoc]
  ·have c' : ¬ hartB hs[i].f0 hs[i].f1 hs[i].f2 = true := c
   have c2 : hOk hs[i] = false := by simpa using c
   have e : hartBytesV hs[i].f0 hs[i].f1 hs[i].f2 = [] := by unfold hartBytesV; rw [if_neg c']
   rw [e, if_pos (by simp), c2, Bool.false_and]; rfl
theorem specSaveBytes_eq (m : List Int) (hs : List S47) (hm : m.length ≤ 1048576) (hx : ∀ h ∈ hs, h.f0.length ≤ 1048576) (hl : hs.length ≤ 1048576) (k : Nat) (hk : 2200000 < k) : spec_SaveBytes.f k m hs = some (saveB m hs) := by
 obtain ⟨k, rfl⟩ : ∃ m, k = m + 1 := ⟨k - 1, by omega⟩
 unfold spec_SaveBytes.f saveB
 rw [specMemBytes_eq m (by omega) _ (by omega), Option.bind_some]
 by_cases hw : wordsB m 24 = true
 ·have e : memB m = twoB m := by unfold memB; rw [if_pos hw]
  have l24 := wordsB_24 hw
  rw [e, if_neg (by rw [twoB_length, l24]; simp)]
  by_cases hn : hs.length ≤ 8
  ·rw [decide_eq_false (by omega), spec_SaveBytes.j0, if_neg (by simp), Option.bind_some, if_pos (by rw [twoB_length, l24]; show 1 + 2 * 24 < _; omega)]
   have h := specSaveB_l hs hx hn hs.length 0 ([(hs.length : Int) % 256] ++ twoB m) k (by omega) (by rw [List.length_append, twoB_length, l24]; show 1 + 2 * 24 ≤ _; omega) (by omega)
   simp only [List.drop_zero] at h
   have h' : spec_SaveBytes.l0 k hs ([(hs.length : Int) % 256] ++ twoB m) 0 = _ := h
   rw [h']
   by_cases c : hs.all hOk = true
   ·rw [if_pos c, if_pos ⟨hw, hn, c⟩]; simp
   ·rw [if_neg c, if_neg (fun hh => c hh.2.2)]
  ·rw [decide_eq_true (by omega), spec_SaveBytes.j0, if_pos rfl, if_neg (fun hh => hn hh.2.1)]
 ·have e : memB m = [] := by unfold memB; rw [if_neg hw]
  rw [e, if_pos (by simp), spec_SaveBytes.j0, if_pos rfl, if_neg (fun hh => hw hh.1)]
def wordX (x : Int) : Prop := 0 ≤ x ∧ x ≤ 65535
theorem specCode_w (o r a b n : Int) : ∃ v t, spec_Code.f o r a b n = some (v, t) ∧ wordX v := by
 unfold spec_Code.f
 rw [specInsOk_eq, Option.bind_some]
 by_cases h : insOkB o r a b n = true
 ·have q := insOkB_bounds h
  rw [if_pos h]
  refine ⟨_, _, rfl, ?_⟩
  unfold wordX
  rw [wrap_small (x := 16 * r) (by omega) (by omega), wrap_small (x := 64 * a) (by omega) (by omega), wrap_small (x := 256 * b) (by omega) (by omega), wrap_small (x := 1024 * n) (by omega) (by omega)]
  rw [wrap_small (x := o + 16 * r) (by omega) (by omega)]
  rw [wrap_small (x := o + 16 * r + 64 * a) (by omega) (by omega)]
  rw [wrap_small (x := o + 16 * r + 64 * a + 256 * b) (by omega) (by omega)]
  rw [wrap_small (x := o + 16 * r + 64 * a + 256 * b + 1024 * n) (by omega) (by omega)]
  omega
 ·rw [if_neg h]; exact ⟨_, _, rfl, by unfold wordX; omega⟩
theorem specCodeW_fn : ∃ cf : Int → Int → Int → Int → Int → Int × Bool, (∀ o r a b n, spec_Code.f o r a b n = some (cf o r a b n)) ∧ ∀ o r a b n, wordX (cf o r a b n).1 := by
 have h : ∀ o r a b n, ∃ v : Int × Bool, spec_Code.f o r a b n = some v ∧ wordX v.1 := fun o r a b n => by
  obtain ⟨v, t, e, w⟩ := specCode_w o r a b n
  exact ⟨(v, t), e, w⟩
 exact ⟨fun o r a b n => (h o r a b n).choose, fun o r a b n => (h o r a b n).choose_spec.1, fun o r a b n => (h o r a b n).choose_spec.2⟩
theorem words_set {m : List Int} {i : Nat} {v : Int} (h : ∀ x ∈ m, wordX x) (hv : wordX v) : ∀ x ∈ m.set i v, wordX x := fun x hx => by
 rcases List.mem_or_eq_of_mem_set hx with hx | rfl
 ·exact h x hx
 ·exact hv
theorem words_snoc {m : List Int} {v : Int} (h : ∀ x ∈ m, wordX x) (hv : wordX v) : ∀ x ∈ m ++ [v], wordX x := fun x hx => by
 rcases List.mem_append.1 hx with hx | hx
 ·exact h x hx
 ·rw [List.mem_singleton] at hx; subst hx; exact hv
theorem drawMemW_l1 (c : List Int) (i s : Int) (T : List S66) (hT : T.length = 4) : ∀ (k j : Nat) (m : List Int), m.length = 24 → (∀ x ∈ m, wordX x) → j ≤ 4 → 4 < j + k → ∃ m', spec_l9DrawMem.l1 k m T (j : Int) c i s = some (m', i, s) ∧ m'.length = 24 ∧ ∀ x ∈ m', wordX x
 | 0, j, m, _, _, h1, h2 => by omega
 | k + 1, j, m, hm, hw, h1, h2 => by
  obtain ⟨cf, hcf, hcw⟩ := specCodeW_fn
  rw [spec_l9DrawMem.l1]
  by_cases h : j < 4
  ·rw [if_pos (by omega), if_pos (by omega), hcf, Option.bind_some, if_pos (by omega), wrap_succ (by omega)]
   exact drawMemW_l1 c i s T hT k (j + 1) _ (by simpa using hm) (words_set hw (hcw _ _ _ _ _)) (by omega) (by omega)
  ·rw [if_neg (by omega)]; exact ⟨m, rfl, hm, hw⟩
theorem drawMemW_l2 (c : List Int) (i s : Int) (T : List S66) (hT : T.length = 4) : ∀ (k j : Nat) (m : List Int), m.length = 24 → (∀ x ∈ m, wordX x) → j ≤ 4 → 4 < j + k → ∃ m', spec_l9DrawMem.l2 k m T (j : Int) c i s = some (m', i, s) ∧ m'.length = 24 ∧ ∀ x ∈ m', wordX x
 | 0, j, m, _, _, h1, h2 => by omega
 | k + 1, j, m, hm, hw, h1, h2 => by
  obtain ⟨cf, hcf, hcw⟩ := specCodeW_fn
  rw [spec_l9DrawMem.l2]
  by_cases h : j < 4
  ·rw [if_pos (by omega), if_pos (by omega), hcf, Option.bind_some, if_pos (by omega), wrap_succ (by omega)]
   exact drawMemW_l2 c i s T hT k (j + 1) _ (by simpa using hm) (words_set hw (hcw _ _ _ _ _)) (by omega) (by omega)
  ·rw [if_neg (by omega)]; exact ⟨m, rfl, hm, hw⟩
theorem drawMemW_l0 (c : List Int) : ∀ (k j : Nat) (m : List Int) (i s : Int), curOk c i → m.length = j → (∀ x ∈ m, wordX x) → j ≤ 24 → 40 < j + k → ∃ m' i' s', spec_l9DrawMem.l0 k m (j : Int) c i s = some (m', i', s') ∧ m'.length = 24 ∧ (∀ x ∈ m', wordX x) ∧ curOk c i'
 | 0, j, m, i, s, _, _, _, h1, h2 => by omega
 | k + 1, j, m, i, s, hc, hm, hw, h1, h2 => by
  obtain ⟨cf, hcf, hcw⟩ := specCodeW_fn
  have pick : ∀ v : Int, v ∈ ([0, 1, 5, 65535] : List Int) → wordX v := fun v hv => by
   simp only [List.mem_cons, List.mem_nil_iff, or_false, List.not_mem_nil] at hv
   unfold wordX; omega
  rw [spec_l9DrawMem.l0]
  by_cases h : j < 24
  ·obtain ⟨o, r, a, b, n, i1, s1, e1, c1⟩ := drawIns_ex c i s hc k (by omega)
   rw [if_pos (by omega), e1, Option.bind_some, hcf, Option.bind_some]
   obtain ⟨v2, i2, s2, e2, p2, c2⟩ := l1PickInt_ex c i1 s1 c1 [0, 1, 5, 65535] (by simp) (by simp)
   obtain ⟨v3, i3, s3, e3, c3⟩ := l1Once_ex c i1 s1 c1 9 (by omega) (by omega)
   obtain ⟨v4, i4, s4, e4, p4, c4⟩ := l1PickInt_ex c i3 s3 c3 [0, 1, 5, 65535] (by simp) (by simp)
   have next : ∀ (x : Int) i s, wordX x → curOk c i → ∃ m' i' s', (if m.length < 17592186044416 then (spec_l9DrawMem.l0 k (m ++ [x]) (wrap64 ((j : Int) + 1)) c i s) else none) = some (m', i', s') ∧ m'.length = 24 ∧ (∀ x ∈ m', wordX x) ∧ curOk c i' := by
    intro x i s hx hc
    rw [if_pos (by omega), wrap_succ (by omega)]
    exact drawMemW_l0 c k (j + 1) _ i s hc (by simp; omega) (words_snoc hw hx) (by omega) (by omega)
   by_cases h15 : (j : Int) > 15
   ·rw [if_pos h15]
    simp only [e2, Option.bind_some]; exact next _ _ _ (pick _ p2) c2
   ·rw [if_neg h15]
    simp only [e3, Option.bind_some]
    by_cases hv : v3 = true
    ·rw [if_pos hv]
     simp only [e4, Option.bind_some]; exact next _ _ _ (pick _ p4) c4
    ·rw [if_neg hv]; exact next _ _ _ (hcw _ _ _ _ _) c3
  ·obtain ⟨v, i1, s1, e1, _, _, c1⟩ := l1Below_ex c i s hc 4 (by omega) (by omega)
   rw [if_neg (by omega), e1, Option.bind_some]
   by_cases h0 : v = 0
   ·obtain ⟨m', e, hl, hw'⟩ := drawMemW_l1 c i1 s1 [⟨1, 1, 0, 0, 1⟩, ⟨6, 2, 0, 1, 20⟩, ⟨10, 3, 2, 1, 0⟩, ⟨8, 0, 0, 0, 1⟩] rfl k 0 m (by omega) hw (by omega) (by omega)
    rw [if_pos h0]; exact ⟨_, _, _, e, hl, hw', c1⟩
   ·rw [if_neg h0]
    by_cases h1 : v = 1
    ·obtain ⟨m', e, hl, hw'⟩ := drawMemW_l2 c i1 s1 [⟨4, 1, 0, 0, 8⟩, ⟨3, 1, 1, 0, 1⟩, ⟨5, 0, 0, 1, 8⟩, ⟨8, 0, 0, 0, 8⟩] rfl k 0 m (by omega) hw (by omega) (by omega)
     rw [if_pos h1]; exact ⟨_, _, _, e, hl, hw', c1⟩
    ·rw [if_neg h1]; exact ⟨_, _, _, rfl, by omega, hw, c1⟩
theorem drawMemW_ex (c : List Int) (i s : Int) (h : curOk c i) (k : Nat) (hk : 50 < k) : ∃ m i' s', spec_l9DrawMem.f k c i s = some (m, i', s') ∧ wordsB m 24 = true ∧ curOk c i' := by
 obtain ⟨m, i1, s1, e, hl, hw, hc⟩ := drawMemW_l0 c k 0 [] i s h rfl (by simp) (by omega) (by omega)
 refine ⟨m, i1, s1, e, ?_, hc⟩
 unfold wordsB
 rw [decide_eq_true (by omega), Bool.true_and, List.all_eq_true]
 exact fun x hx => decide_eq_true (hw x hx)
theorem l9Addr_eq (x : Int) : spec_l9Address.f x = some (x % 24) := by
 unfold spec_l9Address.f
 have hb := tmod_bd x 24 (by omega)
 have hu := tmod_up x 24 (by omega) (by omega)
 generalize x.tmod 24 = t at hb hu ⊢
 rw [← hu]
 by_cases c : t < 0
 ·rw [if_pos c, wrap_small (by omega) (by omega), tmod_pos _ _ (by omega), Int.emod_eq_of_lt (by omega) (by omega)]
 ·rw [if_neg c, tmod_pos _ _ (by omega), Int.add_emod_right, Int.emod_eq_of_lt (by omega) (by omega)]
theorem specHartNew_eq (x : Int) : spec_HartNew.f x = some ([0, 0, 0, 0], x % 24, 0) := by
 unfold spec_HartNew.f
 rw [l9Addr_eq]; rfl
theorem newHart_ok (x : Int) : hartB [0, 0, 0, 0] (x % 24) 0 = true := by
 have h1 : 0 ≤ x % 24 ∧ x % 24 ≤ 23 := by omega
 unfold hartB wordsB
 rw [decide_eq_true h1]; rfl
theorem drawHart_l0 (c : List Int) (pc st : Int) : ∀ (d j : Nat) (r : List Int) (i s : Int) (k : Nat), curOk c i → r.length = 4 → j + d = 4 → d < k → ∃ r' p' t' i' s', spec_l9DrawHart.l0 k (j : Int) c i s r pc st = some (r', p', t', i', s') ∧ r'.length ≤ 4 ∧ curOk c i'
 | 0, j, r, i, s, k, h, hr, hj, hk => by
  obtain ⟨k, rfl⟩ : ∃ q, k = q + 1 := ⟨k - 1, by omega⟩
  obtain ⟨v, i1, s1, e1, _, _, c1⟩ := l1Below_ex c i s h 12 (by omega) (by omega)
  obtain ⟨v2, i2, s2, e2, _, _, c2⟩ := l1Below_ex c i1 s1 c1 5 (by omega) (by omega)
  obtain ⟨v3, i3, s3, e3, _, c3⟩ := l1PickInt_ex c i1 s1 c1 [(-1), 65536] (by simp) (by simp)
  obtain ⟨v4, i4, s4, e4, _, c4⟩ := l1PickInt_ex c i1 s1 c1 [(-1), 24] (by simp) (by simp)
  simp only [spec_l9DrawHart.l0]
  rw [if_neg (by omega)]
  simp only [e1, e2, e3, e4, Option.bind_some]
  by_cases h0 : v = 0
  ·rw [if_pos h0]; exact ⟨_, _, _, _, _, rfl, by omega, c2⟩
  ·rw [if_neg h0]
   by_cases h1 : v = 1
   ·rw [if_pos h1, if_pos (by omega)]; exact ⟨_, _, _, _, _, rfl, by rw [List.length_set]; omega, c3⟩
   ·rw [if_neg h1]
    by_cases h2 : v = 2
    ·rw [if_pos h2]; exact ⟨_, _, _, _, _, rfl, by omega, c4⟩
    ·rw [if_neg h2]
     by_cases h3 : v = 3
     ·rw [if_pos h3, if_pos (by omega)]; exact ⟨_, _, _, _, _, rfl, by rw [List.length_drop]; omega, c1⟩
     ·rw [if_neg h3]; exact ⟨_, _, _, _, _, rfl, by omega, c1⟩
 | d + 1, j, r, i, s, k, h, hr, hj, hk => by
  obtain ⟨k, rfl⟩ : ∃ q, k = q + 1 := ⟨k - 1, by omega⟩
  obtain ⟨v, i1, s1, e1, _, c1⟩ := l1PickInt_ex c i s h [0, 1, 2, 20, 65535] (by simp) (by simp)
  simp only [spec_l9DrawHart.l0]
  rw [if_pos (by omega), e1, Option.bind_some, if_pos (by omega), if_pos (by omega), wrap_succ (by omega)]
  exact drawHart_l0 c pc st d (j + 1) _ i1 s1 k c1 (by rw [List.length_set]; exact hr) (by omega) (by omega)
theorem drawHart_ex (c : List Int) (i s : Int) (h : curOk c i) (k : Nat) (hk : 10 < k) : ∃ r p t i' s', spec_l9DrawHart.f k c i s = some (r, p, t, i', s') ∧ r.length ≤ 4 ∧ curOk c i' := by
 unfold spec_l9DrawHart.f
 obtain ⟨v, i1, s1, e1, _, _, c1⟩ := l1Below_ex c i s h 20 (by omega) (by omega)
 rw [e1, Option.bind_some, specHartNew_eq, Option.bind_some]
 exact drawHart_l0 c _ _ 4 0 _ i1 s1 k c1 rfl (by omega) (by omega)
def runOk (m : List Int) (hs : List S47) (o : List Int) : Prop := wordsB m 24 = true ∧ (1 ≤ hs.length ∧ hs.length ≤ 3) ∧ (∀ h ∈ hs, hartB h.f0 h.f1 h.f2 = true) ∧ o.length ≤ 100 ∧ ∀ x ∈ o, 0 ≤ x ∧ x < (hs.length : Int)
theorem drawRun_l1 (c : List Int) (most : Int) (hmost : 1 ≤ most ∧ most ≤ 100) (m : List Int) (hs : List S47) (hm : wordsB m 24 = true) (hl : 1 ≤ hs.length ∧ hs.length ≤ 3) (hh : ∀ h ∈ hs, hartB h.f0 h.f1 h.f2 = true) : ∀ (d j : Nat) (o : List Int) (i s : Int) (k : Nat), curOk c i → o.length = j → (∀ x ∈ o, 0 ≤ x ∧ x < (hs.length : Int)) → j + d = 100 → 10 + d < k →
  ∃ o' i' s', spec_l18DrawRun.l1 k most m hs o (j : Int) c i s = some (m, hs, o', i', s') ∧ runOk m hs o' ∧ curOk c i'
 | d, j, o, i, s, k, h, hj, ho, hd, hk => by
  obtain ⟨k, rfl⟩ : ∃ q, k = q + 1 := ⟨k - 1, by omega⟩
  obtain ⟨v, i1, s1, e1, p1, q1, c1⟩ := l1Below_ex c i s h most (by omega) (by omega)
  simp only [spec_l18DrawRun.l1]
  rw [e1, Option.bind_some]
  dsimp only
  by_cases hc : (j : Int) < v
  ·match d, hd, hk with
   | 0, hd, _ => omega
   | d + 1, hd, hk =>
    obtain ⟨v2, i2, s2, e2, p2, q2, c2⟩ := l1Below_ex c i1 s1 c1 (hs.length : Int) (by omega) (by omega)
    rw [if_pos hc, e2, Option.bind_some]
    dsimp only
    rw [if_pos (by omega), wrap_succ (by omega)]
    exact drawRun_l1 c most hmost m hs hm hl hh d (j + 1) _ i2 s2 k c2 (by rw [List.length_append, hj]; rfl) (fun x hx => by
     rcases List.mem_append.1 hx with hx | hx
     ·exact ho x hx
     ·rw [List.mem_singleton] at hx; subst hx; exact ⟨p2, q2⟩) (by omega) (by omega)
  ·rw [if_neg hc]
   exact ⟨_, _, _, rfl, ⟨hm, hl, hh, by omega, ho⟩, c1⟩
theorem drawRun_l0 (c : List Int) (most : Int) (hmost : 1 ≤ most ∧ most ≤ 100) (m : List Int) (hm : wordsB m 24 = true) : ∀ (d j : Nat) (hs : List S47) (i s : Int) (k : Nat), curOk c i → hs.length = j → (∀ h ∈ hs, hartB h.f0 h.f1 h.f2 = true) → j + d = 3 → 300 + d < k →
  ∃ hs' o' i' s', spec_l18DrawRun.l0 k most m hs (j : Int) c i s = some (m, hs', o', i', s') ∧ runOk m hs' o' ∧ curOk c i'
 | d, j, hs, i, s, k, h, hj, hh, hd, hk => by
  obtain ⟨k, rfl⟩ : ∃ q, k = q + 1 := ⟨k - 1, by omega⟩
  obtain ⟨v, i1, s1, e1, p1, q1, c1⟩ := l1Below_ex c i s h 3 (by omega) (by omega)
  simp only [spec_l18DrawRun.l0]
  rw [e1, Option.bind_some]
  dsimp only
  rw [wrap_small (x := 1 + v) (by omega) (by omega)]
  by_cases hc : (j : Int) < 1 + v
  ·match d, hd, hk with
   | 0, hd, _ => omega
   | d + 1, hd, hk =>
    obtain ⟨r, p, t, i2, s2, e2, hr, c2⟩ := drawHart_ex c i1 s1 c1 k (by omega)
    rw [if_pos hc, e2, Option.bind_some]
    dsimp only
    rw [specHartOk_eq r p t (by omega) k (by omega), Option.bind_some]
    have more : ∀ (z : S47) (i s : Int), hartB z.f0 z.f1 z.f2 = true → curOk c i → ∃ hs' o' i' s', spec_l18DrawRun.l0 k most m (hs ++ [z]) ((j + 1 : Nat) : Int) c i s = some (m, hs', o', i', s') ∧ runOk m hs' o' ∧ curOk c i' := fun z i s hz hci =>
     drawRun_l0 c most hmost m hm d (j + 1) _ i s k hci (by rw [List.length_append, hj]; rfl) (fun x hx => by
      rcases List.mem_append.1 hx with hx | hx
      ·exact hh x hx
      ·rw [List.mem_singleton] at hx; subst hx; exact hz) (by omega) (by omega)
    by_cases hb : hartB r p t = true
    ·rw [if_pos hb, if_pos (by omega), wrap_succ (by omega)]
     exact more _ _ _ hb c2
    ·obtain ⟨v3, i3, s3, e3, _, _, c3⟩ := l1Below_ex c i2 s2 c2 20 (by omega) (by omega)
     rw [if_neg hb, e3, Option.bind_some, specHartNew_eq, Option.bind_some, if_pos (by omega), wrap_succ (by omega)]
     exact more _ _ _ (newHart_ok _) c3
  ·rw [if_neg hc]
   obtain ⟨o', i2, s2, e2, hok, c2⟩ := drawRun_l1 c most hmost m hs hm (by omega) hh 100 0 [] i1 s1 k c1 rfl (by simp) (by omega) (by omega)
   exact ⟨_, _, _, _, e2, hok, c2⟩
theorem drawRun_ex (c : List Int) (i s : Int) (h : curOk c i) (most : Int) (hmost : 1 ≤ most ∧ most ≤ 100) (k : Nat) (hk : 400 < k) : ∃ m hs o i' s', spec_l18DrawRun.f k c i s most = some (m, hs, o, i', s') ∧ runOk m hs o ∧ curOk c i' := by
 unfold spec_l18DrawRun.f
 obtain ⟨m, i1, s1, e1, hm, c1⟩ := drawMemW_ex c i s h k (by omega)
 rw [e1, Option.bind_some]
 dsimp only
 obtain ⟨hs, o, i2, s2, e2, hok, c2⟩ := drawRun_l0 c most hmost m hm 3 0 [] i1 s1 k c1 rfl (by simp) (by omega) (by omega)
 exact ⟨_, _, _, _, _, e2, hok, c2⟩
theorem drawSteps_ex (c : List Int) (hc : c.length ≤ 1048576) (k : Nat) (hk : 10000 < k) : ∃ m hs o, spec_DrawSteps.f k c = some (m, hs, o) ∧ runOk m hs o := by
 unfold spec_DrawSteps.f spec_l1Long.f
 obtain ⟨i0, s0, e0, c0⟩ := l1New_ex c hc k (by omega)
 rw [e0, Option.bind_some]
 have hd : 0 ≤ (c.length : Int) / 4 ∧ (c.length : Int) / 4 ≤ 1048576 := by omega
 rw [wrap_small (x := (c.length : Int) / 4) (by omega) (by omega), wrap_small (x := 40 + (c.length : Int) / 4) (by omega) (by omega)]
 by_cases hb : 40 + (c.length : Int) / 4 > 80
 ·obtain ⟨m, hs, o, i1, s1, e1, hok, _⟩ := drawRun_ex c i0 s0 c0 80 (by omega) k (by omega)
  rw [if_pos hb, Option.bind_some]
  dsimp only
  rw [e1, Option.bind_some]
  exact ⟨_, _, _, rfl, hok⟩
 ·obtain ⟨m, hs, o, i1, s1, e1, hok, _⟩ := drawRun_ex c i0 s0 c0 (40 + (c.length : Int) / 4) (by omega) k (by omega)
  rw [if_neg hb, Option.bind_some]
  dsimp only
  rw [e1, Option.bind_some]
  exact ⟨_, _, _, rfl, hok⟩
theorem wordAt_eq (l : List Int) (hb : ∀ x ∈ l, 0 ≤ x ∧ x < 256) (i : Nat) (h : 2 * i + 1 < l.length) : wordAt l i = l[2 * i] * 256 + l[2 * i + 1] := by
 unfold wordAt
 have h1 := hb _ (List.getElem_mem (by omega : 2 * i < l.length))
 have h2 := hb _ (List.getElem_mem h)
 rw [rd_nat l (2 * i) (by omega), rd_nat l (2 * i + 1) h, wrap_small (x := l[2 * i]) (by omega) (by omega), wrap_small (x := l[2 * i + 1]) (by omega) (by omega), wrap_small (by omega) (by omega)]
 exact bits_join .i64 62 (by decide) wraps_i64 8 _ _ (by omega) (by omega) (by omega) (by omega) (by omega) (by omega)
theorem twoB_words (l : List Int) (hb : ∀ x ∈ l, 0 ≤ x ∧ x < 256) (n : Nat) (hn : l.length = 2 * n) : twoB (wordsOf l) = l := by
 have go : ∀ i, i ≤ n → twoB ((List.range i).map (wordAt l)) = l.take (2 * i) := by
  intro i
  induction i with
  | zero => intro _; simp [twoB]
  | succ i ih =>
   intro hi
   have h1 := hb _ (List.getElem_mem (by omega : 2 * i < l.length))
   have h2 := hb _ (List.getElem_mem (by omega : 2 * i + 1 < l.length))
   rw [List.range_succ, List.map_append, List.map_singleton, twoB_snoc, ih (by omega), wordAt_eq l hb i (by omega), show 2 * (i + 1) = 2 * i + 1 + 1 by omega, List.take_succ_eq_append_getElem (by omega : 2 * i + 1 < l.length), List.take_succ_eq_append_getElem (by omega : 2 * i < l.length), List.append_assoc]
   congr 1
   have e1 : (l[2 * i] * 256 + l[2 * i + 1]) / 256 % 256 = l[2 * i] := by omega
   have e2 : (l[2 * i] * 256 + l[2 * i + 1]) % 256 = l[2 * i + 1] := by omega
   rw [e1, e2]; rfl
 have h := go n (Nat.le_refl _)
 unfold wordsOf
 rw [show l.length / 2 = n by omega, h, ← hn, List.take_length]
theorem wordsB_words (l : List Int) (hb : ∀ x ∈ l, 0 ≤ x ∧ x < 256) (n : Nat) (hn : l.length = 2 * n) : wordsB (wordsOf l) (n : Int) = true := by
 unfold wordsB
 rw [Bool.and_eq_true, List.all_eq_true, wordsOf_length]
 refine ⟨decide_eq_true (by omega), fun x hx => ?_⟩
 unfold wordsOf at hx
 obtain ⟨i, hi, rfl⟩ := List.mem_map.1 hx
 rw [List.mem_range] at hi
 have h1 := hb _ (List.getElem_mem (by omega : 2 * i < l.length))
 have h2 := hb _ (List.getElem_mem (by omega : 2 * i + 1 < l.length))
 rw [wordAt_eq l hb i (by omega)]
 exact decide_eq_true (by omega)
def hv (c : List Int) : S47 := ⟨(hartOfV c).1, (hartOfV c).2.1, (hartOfV c).2.2.1⟩
theorem hv_ok (c : List Int) : hOk (hv c) = (hartOfV c).2.2.2 := by
 unfold hv hOk hartOfV
 split
 ·rename_i h; exact h.2
 ·rfl
theorem hv_by (c : List Int) (hb : ∀ x ∈ c, 0 ≤ x ∧ x < 256) (h : (hartOfV c).2.2.2 = true) : hBy (hv c) = c := by
 unfold hartOfV at h
 split at h
 ·rename_i q
  have e : hv c = ⟨wordsOf (c.take 8), wrap64 (rd c 8), wrap64 (rd c 9)⟩ := by unfold hv hartOfV; rw [if_pos q]
  have l10 := q.1
  have h8 := hb _ (List.getElem_mem (by omega : 8 < c.length))
  have h9 := hb _ (List.getElem_mem (by omega : 9 < c.length))
  have r8 : rd c 8 = c[8] := rd_nat c 8 (by omega)
  have r9 : rd c 9 = c[9] := rd_nat c 9 (by omega)
  rw [e]; unfold hBy
  try dsimp only
  rw [twoB_words (c.take 8) (fun x hx => hb x (List.mem_of_mem_take hx)) 4 (by rw [List.length_take]; omega), r8, r9, wrap_small (x := c[8]) (by omega) (by omega), wrap_small (x := c[9]) (by omega) (by omega), Int.emod_eq_of_lt h8.1 h8.2, Int.emod_eq_of_lt h9.1 h9.2]
  have t1 := List.take_succ_eq_append_getElem (by omega : 8 < c.length)
  have t2 := List.take_succ_eq_append_getElem (by omega : 9 < c.length)
  have t3 : c.take (9 + 1) = c := List.take_of_length_le (by omega)
  exact ((by rw [t2, show List.take 9 c = _ from t1, List.append_assoc]; rfl) : List.take 8 c ++ [c[8], c[9]] = List.take (9 + 1) c).trans t3
 ·simp at h
def chunk (l : List Int) (j : Nat) : List Int := (l.take (49 + 10 * j + 10)).drop (49 + 10 * j)
def HS (l : List Int) (i : Nat) : List S47 := (List.range i).map fun j => hv (chunk l j)
theorem HS_succ (l : List Int) (i : Nat) : HS l (i + 1) = HS l i ++ [hv (chunk l i)] := by unfold HS; rw [List.range_succ, List.map_append]; rfl
theorem HS_len (l : List Int) (i : Nat) : (HS l i).length = i := by simp [HS]
theorem HS_regs (l : List Int) (i : Nat) : ∀ h ∈ HS l i, h.f0.length ≤ 4 := by
 intro h hh
 obtain ⟨j, _, rfl⟩ := List.mem_map.1 hh
 exact hartOfV_length _
theorem chunk_b (l : List Int) (hb : ∀ x ∈ l, 0 ≤ x ∧ x < 256) (j : Nat) : ∀ x ∈ chunk l j, 0 ≤ x ∧ x < 256 := fun x hx => hb x (List.mem_of_mem_take (List.mem_of_mem_drop hx))
theorem HS_by (l : List Int) (hb : ∀ x ∈ l, 0 ≤ x ∧ x < 256) : ∀ (i : Nat), (∀ j, j < i → (hartOfV (chunk l j)).2.2.2 = true) → (HS l i).flatMap hBy = (l.take (49 + 10 * i)).drop 49
 | 0, _ => by simp [HS, List.drop_eq_nil_of_le]
 | i + 1, h => by
  rw [HS_succ, List.flatMap_append, HS_by l hb i (fun j hj => h j (by omega))]
  have e : [hv (chunk l i)].flatMap hBy = chunk l i := by simp [hv_by _ (chunk_b l hb i) (h i (by omega))]
  rw [e]
  unfold chunk
  rw [show 49 + 10 * (i + 1) = 49 + 10 * i + 10 by omega]
  have e2 : l.take (49 + 10 * i) = (l.take (49 + 10 * i + 10)).take (49 + 10 * i) := by rw [List.take_take, Nat.min_eq_left (by omega)]
  generalize l.take (49 + 10 * i + 10) = q at e2 ⊢
  rw [e2, show 49 + 10 * i = 49 + (10 * i) from rfl]
  rw [← List.take_append_drop (10 * i) (q.drop 49), List.drop_drop, List.drop_take, Nat.add_sub_cancel_left]
def saveGood (l : List Int) : Bool := decide (49 ≤ l.length) && (decide (rd l 0 ≤ 8) && (decide ((l.length : Int) = 49 + 10 * rd l 0) && (HS l ((l.length - 49) / 10)).all hOk))
def saveV (l : List Int) : List Int × List S47 × Bool := if saveGood l = true then (wordsOf ((l.take 49).drop 1), HS l ((l.length - 49) / 10), true) else ([], [], false)
theorem HS_all (l : List Int) (i : Nat) : (HS l i).all hOk = true ↔ ∀ j, j < i → (hartOfV (chunk l j)).2.2.2 = true := by
 unfold HS
 rw [List.all_eq_true]
 constructor
 ·intro h j hj
  rw [← hv_ok]; exact h _ (List.mem_map.2 ⟨j, List.mem_range.2 hj, rfl⟩)
 ·intro h x hx
  obtain ⟨j, hj, rfl⟩ := List.mem_map.1 hx
  rw [hv_ok]; exact h j (List.mem_range.1 hj)
theorem mem_b (l : List Int) (hb : ∀ x ∈ l, 0 ≤ x ∧ x < 256) (hl : 49 ≤ l.length) : wordsB (wordsOf ((l.take 49).drop 1)) 24 = true ∧ twoB (wordsOf ((l.take 49).drop 1)) = (l.take 49).drop 1 := by
 have h : ((l.take 49).drop 1).length = 2 * 24 := by rw [List.length_drop, List.length_take]; omega
 have hb' : ∀ x ∈ (l.take 49).drop 1, 0 ≤ x ∧ x < 256 := fun x hx => hb x (List.mem_of_mem_take (List.mem_of_mem_drop hx))
 exact ⟨wordsB_words _ hb' 24 h, twoB_words _ hb' 24 h⟩
theorem save_iff (l : List Int) (hb : ∀ x ∈ l, 0 ≤ x ∧ x < 256) (hl : 49 ≤ l.length) : saveB (wordsOf ((l.take 49).drop 1)) (HS l ((l.length - 49) / 10)) = l ↔ saveGood l = true := by
 obtain ⟨w1, w2⟩ := mem_b l hb hl
 have r0 : rd l 0 = l[0] := rd_nat l 0 (by omega)
 have b0 := hb _ (List.getElem_mem (by omega : 0 < l.length))
 have l1 : l = l[0] :: ((l.take 49).drop 1 ++ l.drop 49) := by
  have h := List.take_append_drop 49 l
  have h2 : l.take 49 = l[0] :: (l.take 49).drop 1 := by
   have := List.drop_eq_getElem_cons (l := l.take 49) (i := 0) (by rw [List.length_take]; omega)
   simpa using this
  rw [← List.cons_append, ← h2, h]
 unfold saveGood saveB
 rw [HS_len, w2]
 by_cases c : (HS l ((l.length - 49) / 10)).all hOk = true
 ·have hby := HS_by l hb _ ((HS_all l _).1 c)
  rw [hby, c, decide_eq_true hl, Bool.true_and, Bool.and_true]
  constructor
  ·intro h
   by_cases d : (l.length - 49) / 10 ≤ 8
   ·rw [if_pos ⟨w1, d, rfl⟩] at h
    have h0 := congrArg List.length h
    rw [List.length_cons, List.length_append, List.length_drop, List.length_take, List.length_drop, List.length_take] at h0
    have h1 : (((l.length - 49) / 10 : Nat) : Int) % 256 = rd l 0 := congrArg (fun q => rd q 0) h
    rw [decide_eq_true (by omega), decide_eq_true (by omega)]; rfl
   ·rw [if_neg (fun q => d q.2.1)] at h
    rw [← h] at hl; simp at hl
  ·intro h
   rw [Bool.and_eq_true] at h
   have h1 := of_decide_eq_true h.1
   have h2 := of_decide_eq_true h.2
   rw [if_pos ⟨w1, by omega, rfl⟩]
   have e : (((l.length - 49) / 10 : Nat) : Int) % (256 : Int) = (l[0] : Int) := by
    have h3 : rd l 0 = (((l.length - 49) / 10 : Nat) : Int) := by omega
    rw [← r0, h3]; omega
   rw [e, List.take_of_length_le (l := l) (i := 49 + 10 * ((l.length - 49) / 10)) (by omega)]
   exact l1.symm
 ·rw [if_neg (fun q => c q.2.2)]
  constructor
  ·intro h; rw [← h] at hl; simp at hl
  ·intro h
   rw [Bool.and_eq_true, Bool.and_eq_true, Bool.and_eq_true] at h
   exact absurd h.2.2.2 c
theorem bytes_same (a b : List Int) (ha : ∀ x ∈ a, 0 ≤ x ∧ x < 256) (hb : ∀ x ∈ b, 0 ≤ x ∧ x < 256) : bytes_Equal.f a b = some (decide (a = b)) := by
 unfold bytes_Equal.f
 rw [Go.Lib.strOfNums_toList, Go.Lib.strOfNums_toList]
 by_cases h : a = b
 ·rw [h, decide_eq_true rfl]; simp
 ·rw [decide_eq_false h]
  congr 1
  rw [beq_eq_false_iff_ne]
  intro q
  apply h
  have e : ∀ (l : List Int), (∀ x ∈ l, 0 ≤ x ∧ x < 256) → (Go.Lib.bytesOf l).map (fun u => (u.toNat : Int)) = l := by
   intro l hl
   unfold Go.Lib.bytesOf
   rw [List.map_map]
   conv => rhs; rw [← List.map_id l]
   refine List.map_congr_left (fun x hx => ?_)
   have := hl x hx
   show ((UInt8.ofNat x.toNat).toNat : Int) = x
   rw [UInt8.toNat_ofNat']; omega
  rw [← e a ha, ← e b hb, q]
theorem hBy_b (h : S47) : ∀ x ∈ hBy h, 0 ≤ x ∧ x < 256 := by
 intro x hx
 unfold hBy twoB at hx
 rw [List.mem_append, List.mem_flatMap] at hx
 rcases hx with ⟨y, _, hy⟩ | hy
 ·simp only [List.mem_cons, List.not_mem_nil, or_false] at hy; omega
 ·simp only [List.mem_cons, List.not_mem_nil, or_false] at hy; omega
theorem saveB_b (m : List Int) (hs : List S47) : ∀ x ∈ saveB m hs, 0 ≤ x ∧ x < 256 := by
 intro x hx
 unfold saveB at hx
 split at hx
 ·rw [List.mem_cons, List.mem_append] at hx
  rcases hx with h | h | h
  ·omega
  ·unfold twoB at h
   obtain ⟨y, _, hy⟩ := List.mem_flatMap.1 h
   simp only [List.mem_cons, List.not_mem_nil, or_false] at hy; omega
  ·obtain ⟨y, _, hy⟩ := List.mem_flatMap.1 h
   exact hBy_b y x hy
 ·simp at hx
theorem implSaveOf_eq (l : List Int) (hb : ∀ x ∈ l, 0 ≤ x ∧ x < 256) (hl : l.length ≤ 1048576) (k : Nat) (hk : 4200000 < k) : impl_SaveOf.f k l = some (saveV l) := by
 unfold impl_SaveOf.f
 by_cases c : (l.length : Int) < 49
 ·rw [if_pos c]; unfold saveV saveGood; rw [decide_eq_false (by omega), Bool.false_and]; rfl
 have hl' : 49 ≤ l.length := by omega
 have em : impl_MemOf.f k ((l.take 49).drop 1) = some (wordsOf ((l.take 49).drop 1), true) := by
  have h : ((l.take 49).drop 1).length = 48 := by rw [List.length_drop, List.length_take]; omega
  unfold impl_MemOf.f
  rw [if_pos (by omega), wordsIn_eq _ (by omega) k (by omega)]; rfl
 rw [if_neg c, if_pos (by omega), em, Option.bind_some]
 obtain ⟨w1, w2⟩ := mem_b l hb hl'
 have h := for_stC 2200010 ((l.length - 49) / 10) (fun k' i (s : List S47) => impl_SaveOf.l0 k' l (wordsOf ((l.take 49).drop 1)) s ((49 + 10 * i : Nat) : Int)) (fun i => HS l i) (saveV l) ?_ ?_ k 0 (Nat.zero_le _) (by omega)
 ·exact h
 ·intro k' i hk' hi
  try dsimp only
  have e : wrap64 (((49 + 10 * i : Nat) : Int) + 10) = ((49 + 10 * i + 10 : Nat) : Int) := by rw [wrap_small (by omega) (by omega)]; omega
  rw [impl_SaveOf.l0, e, if_pos (by omega), if_pos (by omega), if_pos (by omega), Int.toNat_natCast, Int.toNat_natCast]
  have e2 : impl_HartOf.f k' ((l.take (49 + 10 * i + 10)).drop (49 + 10 * i)) = some (hartOfV (chunk l i)) := implHartOf_eq (chunk l i) (by unfold chunk; rw [List.length_drop, List.length_take]; omega) k' (by unfold chunk; rw [List.length_drop, List.length_take]; omega)
  rw [e2, Option.bind_some, if_pos (by rw [HS_len]; omega), HS_succ]
  show impl_SaveOf.l0 k' l _ (HS l i ++ [hv (chunk l i)]) ((49 + 10 * i + 10 : Nat) : Int) = _
  rw [show 49 + 10 * i + 10 = 49 + 10 * (i + 1) by omega]
 ·intro k' hk'
  try dsimp only
  have e : wrap64 (((49 + 10 * ((l.length - 49) / 10) : Nat) : Int) + 10) = ((49 + 10 * ((l.length - 49) / 10) + 10 : Nat) : Int) := by rw [wrap_small (by omega) (by omega)]; omega
  rw [impl_SaveOf.l0, e, if_neg (by omega), implSaveBytes_eq _ _ (by rw [wordsB_24 w1]; omega) (fun x hx => by have := HS_regs l _ x hx; omega) (by rw [HS_len]; omega) k' (by omega), Option.bind_some, bytes_same _ _ (saveB_b _ _) hb, Option.bind_some]
  have hi := save_iff l hb hl'
  unfold saveV
  by_cases d : saveGood l = true
  ·rw [decide_eq_true (hi.2 d), if_pos rfl, if_pos d]
  ·rw [decide_eq_false (fun q => d (hi.1 q)), if_neg (by simp), if_neg d]
theorem twoB_get (l : List Int) : ∀ (i : Nat) (h : i < l.length), (twoB l)[2 * i]? = some (l[i] / 256 % 256) ∧ (twoB l)[2 * i + 1]? = some (l[i] % 256) := by
 induction l with
 | nil => intro i h; simp at h
 | cons x l ih =>
  intro i h
  have e : twoB (x :: l) = (x / 256 % 256) :: (x % 256) :: twoB l := by simp [twoB]
  rw [e]
  cases i with
  | zero => exact ⟨rfl, rfl⟩
  | succ i =>
   have := ih i (by simpa using h)
   rw [show 2 * (i + 1) = 2 * i + 1 + 1 by omega]
   simpa using this
theorem twoB_b (l : List Int) : ∀ x ∈ twoB l, 0 ≤ x ∧ x < 256 := by
 intro x hx
 unfold twoB at hx
 obtain ⟨y, _, hy⟩ := List.mem_flatMap.1 hx
 simp only [List.mem_cons, List.mem_nil_iff, or_false, List.not_mem_nil] at hy
 rcases hy with rfl | rfl <;> omega
theorem words_twoB (l : List Int) (h : ∀ x ∈ l, 0 ≤ x ∧ x ≤ 65535) : wordsOf (twoB l) = l := by
 have hl := twoB_length l
 refine List.ext_getElem (by rw [wordsOf_length]; omega) fun i h1 h2 => ?_
 have e : (wordsOf (twoB l))[i]'h1 = wordAt (twoB l) i := by simp [wordsOf]
 have hx := h _ (List.getElem_mem h2)
 obtain ⟨g1, g2⟩ := twoB_get l i h2
 rw [List.getElem?_eq_getElem (by omega)] at g1 g2
 rw [e, wordAt_eq (twoB l) (twoB_b l) i (by omega), Option.some.inj g1, Option.some.inj g2]
 omega
theorem hv_back (h : S47) (c : hOk h = true) : hv (hBy h) = h := by
 have hp := hartB_parts c
 have l10 := hBy_length h c
 have l8 : (twoB h.f0).length = 8 := by rw [twoB_length, hp.1]
 have w : wordsOf ((hBy h).take 8) = h.f0 := by
  unfold hBy
  rw [List.take_append_of_le_length (by omega), List.take_of_length_le (by omega)]
  exact words_twoB _ hp.2.1
 have r8 : rd (hBy h) 8 = h.f1 := by
  have : rd (hBy h) ((8 : Nat) : Int) = (hBy h)[8]'(by omega) := rd_nat _ 8 (by omega)
  rw [show (8 : Int) = ((8 : Nat) : Int) from rfl, this]
  unfold hBy
  rw [List.getElem_append_right (by omega)]
  simp only [l8, Nat.sub_self, List.getElem_cons_zero]
  have := hp.2.2.1; omega
 have r9 : rd (hBy h) 9 = h.f2 := by
  have : rd (hBy h) ((9 : Nat) : Int) = (hBy h)[9]'(by omega) := rd_nat _ 9 (by omega)
  rw [show (9 : Int) = ((9 : Nat) : Int) from rfl, this]
  unfold hBy
  rw [List.getElem_append_right (by omega)]
  simp only [l8, show 9 - 8 = 1 from rfl, List.getElem_cons_succ, List.getElem_cons_zero]
  have := hp.2.2.2; omega
 have e : hartOfV (hBy h) = (h.f0, h.f1, h.f2, true) := by
  unfold hartOfV
  rw [w, r8, r9, wrap_small (x := h.f1) (by omega) (by omega), wrap_small (x := h.f2) (by omega) (by omega), if_pos ⟨l10, c⟩]
 unfold hv
 rw [e]
theorem flat_chunk (hs : List S47) (hok : ∀ h ∈ hs, hOk h = true) : (hs.flatMap hBy).length = 10 * hs.length ∧ ∀ (j : Nat) (h : j < hs.length), ((hs.flatMap hBy).take (10 * j + 10)).drop (10 * j) = hBy hs[j] := by
 induction hs with
 | nil => exact ⟨rfl, fun j h => by simp at h⟩
 | cons x hs ih =>
  have hx := hBy_length x (hok x (by simp))
  obtain ⟨il, ig⟩ := ih (fun h hh => hok h (by simp [hh]))
  refine ⟨by rw [List.flatMap_cons, List.length_append, List.length_cons, hx, il]; omega, fun j h => ?_⟩
  rw [List.flatMap_cons]
  cases j with
  | zero =>
   rw [Nat.mul_zero, Nat.zero_add, List.drop_zero, List.take_append_of_le_length (by omega), List.take_of_length_le (by omega)]; rfl
  | succ j =>
   have := ig j (by simpa using h)
   rw [show 10 * (j + 1) + 10 = (hBy x).length + (10 * j + 10) by omega, List.take_length_add_append, show 10 * (j + 1) = (hBy x).length + 10 * j by omega, List.drop_length_add_append]
   exact this
theorem save_back (m : List Int) (hs : List S47) (hm : wordsB m 24 = true) (hl : hs.length ≤ 8) (hok : ∀ h ∈ hs, hOk h = true) : saveV (saveB m hs) = (m, hs, true) := by
 have hall : hs.all hOk = true := List.all_eq_true.2 hok
 have e : saveB m hs = (((hs.length : Int) % 256) :: twoB m) ++ hs.flatMap hBy := by unfold saveB; rw [if_pos ⟨hm, hl, hall⟩]; rfl
 have lm := wordsB_24 hm
 obtain ⟨fl, fg⟩ := flat_chunk hs hok
 have lP : (((hs.length : Int) % 256) :: twoB m).length = 49 := by rw [List.length_cons, twoB_length, lm]
 have ll : (saveB m hs).length = 49 + 10 * hs.length := by rw [e, List.length_append, lP, fl]
 have hn : ((saveB m hs).length - 49) / 10 = hs.length := by omega
 have hch : ∀ (j : Nat) (h : j < hs.length), chunk (saveB m hs) j = hBy hs[j] := fun j h => by
  unfold chunk
  rw [e, show 49 + 10 * j + 10 = (((hs.length : Int) % 256) :: twoB m).length + (10 * j + 10) by omega, List.take_length_add_append, show 49 + 10 * j = (((hs.length : Int) % 256) :: twoB m).length + 10 * j by omega, List.drop_length_add_append]
  exact fg j h
 have hHS : HS (saveB m hs) hs.length = hs := by
  refine List.ext_getElem (HS_len _ _) fun j h1 h2 => ?_
  have : (HS (saveB m hs) hs.length)[j]'h1 = hv (chunk (saveB m hs) j) := by simp [HS]
  rw [this, hch j h2]
  exact hv_back _ (hok _ (List.getElem_mem h2))
 have h0 : rd (saveB m hs) 0 = (hs.length : Int) := by rw [e]; show ((hs.length : Int) % 256) = _; omega
 have hg : saveGood (saveB m hs) = true := by
  unfold saveGood
  rw [hn, hHS, hall, h0, decide_eq_true (by omega), decide_eq_true (by omega), decide_eq_true (by omega)]; rfl
 unfold saveV
 rw [if_pos hg, hn, hHS]
 have : ((saveB m hs).take 49).drop 1 = twoB m := by
  rw [e, List.take_append_of_le_length (by omega), List.take_of_length_le (by omega)]; rfl
 rw [this, words_twoB m (fun x hx => wordsB_mem hm x hx)]
theorem hartB_mk {r : List Int} {p s : Int} (h1 : r.length = 4) (h2 : ∀ x ∈ r, 0 ≤ x ∧ x ≤ 65535) (h3 : 0 ≤ p ∧ p ≤ 23) (h4 : 0 ≤ s ∧ s ≤ 2) : hartB r p s = true := by
 unfold hartB wordsB
 rw [decide_eq_true h3, decide_eq_true h4, decide_eq_true (by omega), List.all_eq_true.2 fun x hx => decide_eq_true (h2 x hx)]; rfl
theorem set_word {r : List Int} {i : Nat} {v : Int} (h2 : ∀ x ∈ r, 0 ≤ x ∧ x ≤ 65535) (hv : 0 ≤ v ∧ v ≤ 65535) : ∀ x ∈ r.set i v, 0 ≤ x ∧ x ≤ 65535 := fun x hx => by
 rcases List.mem_or_eq_of_mem_set hx with hx | rfl
 ·exact h2 x hx
 ·exact hv
theorem workV_ok (r : List Int) (pc st o i a b n got : Int) (h : hartB r pc st = true) : hartB (workV r pc st o i a b n got).1 (workV r pc st o i a b n got).2.1 (workV r pc st o i a b n got).2.2.1 = true ∧ (workV r pc st o i a b n got).2.2.2 ≤ 65535 := by
 obtain ⟨p1, p2, p3, p4⟩ := hartB_parts h
 have wa := rd_word p2 a
 have wb := rd_word p2 b
 unfold workV
 by_cases c : hartB r pc st = true ∧ st = 0 ∧ (0 ≤ got ∧ got ≤ 65535)
 ·rw [if_pos c]
  by_cases hi : insOkB o i a b n = true
  ·have q := insOkB_bounds hi
   have hst := c.2.1
   have hg := c.2.2
   have s1 : ∀ v : Int, 0 ≤ v ∧ v ≤ 65535 → hartB (r.set i.toNat v) ((pc + 1) % 24) st = true := fun v hv => hartB_mk (by rw [List.length_set]; exact p1) (set_word p2 hv) (by omega) p4
   rw [if_pos hi]
   unfold opV
   split
   ·exact ⟨s1 _ (by omega), by dsimp only; omega⟩
   split
   ·exact ⟨s1 _ (by omega), by dsimp only; omega⟩
   split
   ·exact ⟨s1 _ (by omega), by dsimp only; omega⟩
   split
   ·exact ⟨s1 _ (by omega), by dsimp only; omega⟩
   split
   ·exact ⟨s1 _ hg, by dsimp only; omega⟩
   split
   ·exact ⟨hartB_mk p1 p2 (by dsimp only; omega) p4, wb.2⟩
   split
   ·exact ⟨s1 _ hg, by dsimp only; omega⟩
   split
   ·split
    ·exact ⟨hartB_mk p1 p2 (by dsimp only; omega) p4, by dsimp only; omega⟩
    ·exact ⟨hartB_mk p1 p2 (by dsimp only; omega) p4, by dsimp only; omega⟩
   split
   ·exact ⟨hartB_mk p1 p2 (by dsimp only; omega) p4, by dsimp only; omega⟩
   split
   ·exact ⟨hartB_mk p1 p2 p3 (by dsimp only; omega), by dsimp only; omega⟩
   ·exact ⟨hartB_mk p1 p2 (by dsimp only; omega) p4, by dsimp only; omega⟩
  ·rw [if_neg hi]; exact ⟨hartB_mk p1 p2 p3 (by dsimp only; omega), by dsimp only; omega⟩
 ·rw [if_neg c]; exact ⟨h, by dsimp only; omega⟩
theorem wordsB_set {m : List Int} {i : Nat} {v : Int} (h : wordsB m 24 = true) (hv : 0 ≤ v ∧ v ≤ 65535) : wordsB (m.set i v) 24 = true := by
 have l := wordsB_24 h
 unfold wordsB
 rw [List.length_set, decide_eq_true (by omega), List.all_eq_true.2 fun x hx => decide_eq_true (set_word (fun x hx => wordsB_mem h x hx) hv x hx)]; rfl
theorem stepV_ok (m : List Int) (h : Hh) (hm : wordsB m 24 = true) (hh : hB h = true) : wordsB (stepV m h).1 24 = true ∧ hB (stepV m h).2 = true := by
 have w := workV_ok h.f0 h.f1 h.f2 (decodeV (rd m h.f1)).1 (decodeV (rd m h.f1)).2.1 (decodeV (rd m h.f1)).2.2.1 (decodeV (rd m h.f1)).2.2.2.1 (decodeV (rd m h.f1)).2.2.2.2.1 (gotV m h) hh
 have e : wkV m h = workV h.f0 h.f1 h.f2 (decodeV (rd m h.f1)).1 (decodeV (rd m h.f1)).2.1 (decodeV (rd m h.f1)).2.2.1 (decodeV (rd m h.f1)).2.2.2.1 (decodeV (rd m h.f1)).2.2.2.2.1 (gotV m h) := rfl
 rw [← e] at w
 unfold stepV
 refine ⟨?_, w.1⟩
 dsimp only
 split
 ·rename_i c; exact wordsB_set hm ⟨c, w.2⟩
 ·exact hm
theorem runV_ok (o : List Int) : ∀ (m : List Int) (hs : List Hh), wordsB m 24 = true → (∀ h ∈ hs, hB h = true) → wordsB (runV m hs o).1 24 = true ∧ ∀ h ∈ (runV m hs o).2, hB h = true := by
 induction o with
 | nil => intro m hs h1 h2; exact ⟨h1, h2⟩
 | cons i o ih =>
  intro m hs h1 h2
  have e : runV m hs (i :: o) = runV (nextV (m, hs) i).1 (nextV (m, hs) i).2 o := rfl
  rw [e]
  have hn : wordsB (nextV (m, hs) i).1 24 = true ∧ ∀ h ∈ (nextV (m, hs) i).2, hB h = true := by
   unfold nextV
   split
   ·rename_i c
    have hh := h2 _ (rdH_mem _ _ c.1 c.2.1)
    obtain ⟨s1, s2⟩ := stepV_ok m _ h1 hh
    refine ⟨s1, fun x hx => ?_⟩
    rcases List.mem_or_eq_of_mem_set hx with hx | rfl
    ·exact h2 x hx
    ·exact s2
   ·exact ⟨h1, h2⟩
  exact ih _ _ hn.1 hn.2
theorem runV_app (m : List Int) (hs : List Hh) (a b : List Int) : runV m hs (a ++ b) = runV (runV m hs a).1 (runV m hs a).2 b := by
 unfold runV
 rw [List.foldl_append]
theorem l7Ints_same (l : List Int) (hl : l.length ≤ 1048576) (k : Nat) (hk : 2 * l.length + 2 < k) : spec_l7Ints.f k l l = some true := by
 unfold spec_l7Ints.f
 have h := for_st l.length (fun k i (_ : Unit) => spec_l7Ints.l0 (2 * k) l l (i : Int)) (fun _ => ()) true (fun k i hi => by
   rw [show 2 * (k + 1) = 2 * k + 1 + 1 by omega]
   simp only [spec_l7Ints.l0]
   rw [if_pos (by omega), decide_eq_true (by omega), spec_l7Ints.j1, if_pos rfl, if_pos (by omega), if_pos (by omega), if_pos (by omega), if_pos rfl, wrap_succ (by omega)]) (fun k => by
   rw [show 2 * (k + 1) = 2 * k + 1 + 1 by omega]
   simp only [spec_l7Ints.l0]
   rw [if_neg (by omega), spec_l7Ints.j1, if_neg (by simp)]; simp) (l.length + 1) 0 (Nat.zero_le _) (by omega)
 have mono : ∀ d, spec_l7Ints.l0 (2 * (l.length + 1) + d) l l 0 = some true := fun d => by
  induction d with
  | zero => exact h
  | succ d ih => exact (spec_l7Ints.mono_l _).1 _ _ _ _ ih
 have := mono (k - 2 * (l.length + 1))
 rwa [show 2 * (l.length + 1) + (k - 2 * (l.length + 1)) = k by omega] at this
theorem sameHarts_same (l : List S47) (hl : l.length ≤ 1048576) (hx : ∀ h ∈ l, h.f0.length ≤ 1048576) (k : Nat) (hk : 4000000 < k) : laws_sameHarts.f k l l = some true := by
 unfold laws_sameHarts.f
 rw [if_pos rfl]
 refine same_loop (C := 2097160) (n := l.length) (fun k i => laws_sameHarts.l0 k l l (i : Int)) ?_ ?_ k (by omega)
 ·intro k i hi hC
  simp only [laws_sameHarts.l0]
  have h := hx _ (List.getElem_mem hi)
  rw [if_pos (by omega), if_pos (by omega), if_pos (by omega), rdH l i hi]
  unfold spec_SameHart.f
  rw [if_pos rfl, if_pos rfl, l7Ints_same _ h k (by omega), Option.bind_some, Option.bind_some, if_pos rfl, wrap_succ (by omega)]
 ·intro k
  simp only [laws_sameHarts.l0]
  rw [if_neg (by omega)]
theorem FnResumes : laws_FnResumes.Pure := by
 intro c _ _ hcb
 obtain ⟨K, hK⟩ : ∃ K : Nat, 9000000 ≤ K := ⟨_, Nat.le_refl _⟩
 refine ⟨K + 1, ?_⟩
 unfold laws_FnResumes.f laws_big.f
 rw [Option.bind_some]
 by_cases hb : (c.length : Int) > 1048576
 ·rw [if_pos (decide_eq_true hb)]
 rw [if_neg (by simpa using hb)]
 obtain ⟨m, hs, o, ed, hw, hl, hh, ho, hin⟩ := drawSteps_ex c (by omega) (K + 1) (by omega)
 obtain ⟨a, ea, a0⟩ := at_ex c (by omega) (bytes_of_wf hcb) 1 (by omega)
 rw [show ((1 : Nat) : Int) = 1 from rfl] at ea
 have l24 := wordsB_24 hw
 have hsh : ∀ hs' : List Hh, (∀ h ∈ hs', hB h = true) → shortH hs' := fun hs' h x hx => by have := (hartB_parts (h x hx)).1; omega
 have ew : wrap64 ((o.length : Int) + 1) = (o.length : Int) + 1 := wrap_small (by omega) (by omega)
 have et : Int.tmod a ((o.length : Int) + 1) = a % ((o.length : Int) + 1) := tmod_pos _ _ a0
 have b0 := Int.emod_nonneg a (by omega : (o.length : Int) + 1 ≠ 0)
 have b1 := Int.emod_lt_of_pos a (by omega : 0 < (o.length : Int) + 1)
 obtain ⟨q, hq⟩ : ∃ q : Nat, a % ((o.length : Int) + 1) = (q : Int) := ⟨(a % ((o.length : Int) + 1)).toNat, by omega⟩
 rw [ed, Option.bind_some]
 try dsimp only
 rw [ea, Option.bind_some, ew, et, hq, if_neg (by omega), if_pos (by omega), if_pos (by omega)]
 simp only [Int.toNat_natCast]
 obtain ⟨r1, r2⟩ := runV_ok (o.take q) m hs hw hh
 have rl := runV_len m hs (o.take q)
 rw [implFlatRun_eq m hs (o.take q) (by omega) (by omega) (hsh hs hh) (K + 1) (by omega), if_pos ⟨by rw [List.length_take]; omega, hw⟩, Option.bind_some]
 try dsimp only
 have hx1 : ∀ h ∈ (runV m hs (o.take q)).2, h.f0.length ≤ 1048576 := fun h hh => by have := (hartB_parts (r2 h hh)).1; omega
 have rb := save_back (runV m hs (o.take q)).1 (runV m hs (o.take q)).2 r1 (by omega) r2
 have sb := saveB_b (runV m hs (o.take q)).1 (runV m hs (o.take q)).2
 rw [implSaveBytes_eq _ _ (by omega) hx1 (by omega) (K + 1) (by omega), Option.bind_some]
 have sl : (saveB (runV m hs (o.take q)).1 (runV m hs (o.take q)).2).length ≤ 1048576 := by
  unfold saveB
  split
  ·rw [List.length_cons, List.length_append, twoB_length, (flat_chunk _ r2).1]; omega
  ·simp
 rw [implSaveOf_eq _ sb sl (K + 1) (by omega), rb, Option.bind_some]
 try dsimp only
 rw [if_pos rfl, Option.bind_some, specSaveBytes_eq _ _ (by omega) hx1 (by omega) (K + 1) (by omega), Option.bind_some]
 rw [show ((strOfNums (saveB (runV m hs (o.take q)).1 (runV m hs (o.take q)).2)).toList != (strOfNums (saveB (runV m hs (o.take q)).1 (runV m hs (o.take q)).2)).toList) = false by simp]
 rw [laws_FnResumes.j0, if_neg (by simp), if_pos (by omega), if_pos (by omega)]
 simp only [Int.toNat_natCast]
 obtain ⟨t1, t2⟩ := runV_ok o m hs hw hh
 have tl := runV_len m hs o
 rw [implFlatRun_eq _ _ (o.drop q) (by omega) (by omega) (hsh _ r2) K (by omega), if_pos ⟨by rw [List.length_drop]; omega, r1⟩, Option.bind_some, implFlatRun_eq m hs o (by omega) (by omega) (hsh hs hh) K (by omega), if_pos ⟨by omega, hw⟩, Option.bind_some]
 have ee : runV (runV m hs (o.take q)).1 (runV m hs (o.take q)).2 (o.drop q) = runV m hs o := by rw [← runV_app, List.take_append_drop]
 rw [ee, sameInts_same _ (by omega) K (by omega), Option.bind_some, if_pos rfl, sameHarts_same _ (by omega) (fun h hh => by have := (hartB_parts (t2 h hh)).1; omega) K (by omega), Option.bind_some]
end Go.Proofs.Ytajhfpeijagpnaa.Pure
