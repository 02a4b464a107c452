/- For all memories and all lists of deeds, the program's SeqOk answers what the reference's SeqOk answers, and keeps its arguments: no conditions. -/
import Derived.Test.YthmkclelkijhoaaPFnExactSeqOkx7
namespace Go.Proofs.Ythmkclelkijhoaa.Pure
open Go.RowKit Go.Proofs.Ythmkclelkijhoaa.PFnExactSeqOk Go.Proofs.YthmkclelkijhoaaW.PrintWords Go.Proofs.YthmkclelkijhoaaW.PrintLast
set_option linter.unusedVariables false
set_option linter.unusedSimpArgs false

theorem wrap_small {x : Int} (h0 : -9223372036854775808 ≤ x) (h : x ≤ 9223372036854775807) : wrap64 x = x := by
 unfold wrap64; omega
theorem wrap_succ {i : Nat} (h : i < 4611686018427387904) : wrap64 ((i : Int) + 1) = ((i + 1 : Nat) : Int) := by
 unfold wrap64; omega
theorem rd_nat (l : List Int) (i : Nat) (h : i < l.length) : rd l (i : Int) = l[i] := by
 unfold rd; simp [List.getD, h]
theorem rd_mem (l : List Int) (i : Nat) (h : i < l.length) : rd l (i : Int) ∈ l := by
 rw [rd_nat l i h]; exact List.getElem_mem h
theorem for_st {σ ρ : Type} (n : Nat) (L : Nat → Nat → σ → Option ρ) (st : Nat → σ) (r : ρ) (hs : ∀ k i, i < n → L (k + 1) i (st i) = L k (i + 1) (st (i + 1))) (he : ∀ k, L (k + 1) n (st n) = some r) :
  ∀ (k i : Nat), i ≤ n → n < i + k → L k i (st i) = some r
 | 0, i, hi, hk => by omega
 | k + 1, i, hi, hk => by
  by_cases h : i < n
  ·rw [hs k i h]; exact for_st n L st r hs he k (i + 1) (by omega) (by omega)
  ·have : i = n := by omega
   subst this; exact he k
theorem for_find {ρ : Type} (n : Nat) (L : Nat → Nat → Option ρ) (p : Nat → Prop) (b : Nat → ρ) (r : ρ) (hs : ∀ k i, i < n → ¬ p i → L (k + 1) i = L k (i + 1)) (hb : ∀ k i, i < n → p i → L (k + 1) i = some (b i)) (he : ∀ k, L (k + 1) n = some r) :
  ∀ (k i : Nat), i ≤ n → n < i + k → (∃ j, i ≤ j ∧ j < n ∧ p j ∧ (∀ m, i ≤ m → m < j → ¬ p m) ∧ L k i = some (b j)) ∨ (∀ j, i ≤ j → j < n → ¬ p j) ∧ L k i = some r
 | 0, i, hi, hk => by omega
 | k + 1, i, hi, hk => by
  by_cases h : i < n
  ·by_cases hp : p i
   ·exact .inl ⟨i, Nat.le_refl _, h, hp, fun m h1 h2 => by omega, hb k i h hp⟩
   ·rw [hs k i h hp]
    rcases for_find n L p b r hs hb he k (i + 1) (by omega) (by omega) with ⟨j, h1, h2, h3, h4, h5⟩ | ⟨h1, h2⟩
    ·refine .inl ⟨j, by omega, h2, h3, fun m hm1 hm2 => ?_, h5⟩
     by_cases e : m = i
     ·subst e; exact hp
     ·exact h4 m (by omega) hm2
    ·refine .inr ⟨fun j hj1 hj2 => ?_, h2⟩
     by_cases e : j = i
     ·subst e; exact hp
     ·exact h1 j (by omega) hj2
  ·have : i = n := by omega
   subst this; exact .inr ⟨fun j h1 h2 => by omega, he k⟩
theorem for_all {n : Nat} {L : Nat → Nat → Option Bool} (p : Nat → Prop) (hs : ∀ k i, i < n → p i → L (k + 1) i = L k (i + 1)) (hb : ∀ k i, i < n → ¬ p i → L (k + 1) i = some false) (c : Bool) (he : ∀ k, L (k + 1) n = some c) {q : Bool}
  (hq : q = true ↔ (∀ j, j < n → p j) ∧ c = true) (k : Nat) (hk : n < k) : L k 0 = some q := by
 rcases for_find n L (fun i => ¬ p i) (fun _ => false) c (fun k i h hp => hs k i h (Classical.not_not.1 hp)) (fun k i h hp => hb k i h hp) he k 0 (Nat.zero_le _) (by omega) with ⟨j, _, h2, h3, _, h5⟩ | ⟨h1, h2⟩
 ·rw [h5]; congr 1; symm
  rw [Bool.eq_false_iff]; intro hh; exact h3 ((hq.1 hh).1 j h2)
 ·rw [h2]; congr 1
  have : ∀ j, j < n → p j := fun j hj => Classical.not_not.1 (h1 j (Nat.zero_le _) hj)
  rw [Bool.eq_iff_iff, hq]; exact ⟨fun h => ⟨this, h⟩, fun h => h.2⟩
theorem set_step {α : Type} (a b : List α) (i : Nat) (hi : i < a.length) (hb : b.length = a.length) : (a.take i ++ b.drop i).set i (a[i]'hi) = a.take (i + 1) ++ b.drop (i + 1) := by
 rw [List.set_append_right _ _ (by simp; omega), List.length_take, Nat.min_eq_left (by omega), Nat.sub_self, List.take_succ_eq_append_getElem hi, List.append_assoc]
 congr 1
 rw [List.drop_eq_getElem_cons (by omega)]
 rfl
theorem eq_iff_all (a b : List Int) (h : a.length = b.length) : a = b ↔ ∀ j, j < a.length → rd a (j : Int) = rd b (j : Int) := by
 constructor
 ·rintro rfl j _; rfl
 ·intro hh; refine List.ext_getElem h (fun j h1 h2 => ?_)
  have := hh j h1
  rwa [rd_nat a j h1, rd_nat b j h2] at this
theorem sz_loop {n C : Nat} {M : Int} (L : Nat → Nat → Int → Option Int) (P : Nat → Prop) (hs : ∀ k i a, i < n → C ≤ k → 0 ≤ a → a ≤ M → (∃ r, r < 0 ∧ L (k + 1) i a = some r) ∨ ∃ t, 0 ≤ t ∧ t ≤ a ∧ P i ∧ L (k + 1) i a = L k (i + 1) t)
  (he : ∀ k a, L (k + 1) n a = some a) : ∀ (m i : Nat) (a : Int), i ≤ n → n < i + m → 0 ≤ a → a ≤ M → ∃ r, L (m + C) i a = some r ∧ r ≤ a ∧ (0 ≤ r → ∀ j, i ≤ j → j < n → P j)
 | 0, i, a, hi, hm, _, _ => by omega
 | m + 1, i, a, hi, hm, h0, h1 => by
  rw [show m + 1 + C = (m + C) + 1 by omega]
  by_cases h : i < n
  ·rcases hs (m + C) i a h (by omega) h0 h1 with ⟨r, hr, e⟩ | ⟨t, ht0, ht, hp, e⟩
   ·exact ⟨r, e, by omega, fun h => by omega⟩
   ·obtain ⟨r, e2, hr, hq⟩ := sz_loop L P hs he m (i + 1) t (by omega) (by omega) ht0 (by omega)
    refine ⟨r, by rw [e, e2], by omega, fun h0 j hj1 hj2 => ?_⟩
    by_cases c : j = i
    ·subst c; exact hp
    ·exact hq h0 j (by omega) hj2
  ·have : i = n := by omega
   subst this
   exact ⟨a, he _ _, Int.le_refl _, fun _ j h1 h2 => by omega⟩
theorem to_loop {α : Type} {C : Nat} (v z : List α) (hz : z.length = v.length) (L : Nat → Nat → List α → Option (List α)) (hs : ∀ k i s (hi : i < v.length), C ≤ k → s.length = v.length → L (k + 1) i s = L k (i + 1) (s.set i (v[i]'hi)))
  (he : ∀ k s, L (k + 1) v.length s = some s) (k : Nat) (hk : v.length + C < k) : L k 0 z = some v := by
 have h := for_st v.length (fun k' i (s : List α) => L (k' + C) i s) (fun i => v.take i ++ z.drop i) v ?_ ?_ (k - C) 0 (Nat.zero_le _) (by omega)
 ·rw [show k - C + C = k by omega] at h; simpa using h
 ·intro k' i hi
  rw [show k' + 1 + C = (k' + C) + 1 by omega, hs _ _ _ hi (by omega) (by simp; omega), set_step _ _ _ hi hz]
 ·intro k'
  rw [show k' + 1 + C = (k' + C) + 1 by omega, he, List.take_of_length_le (Nat.le_refl _), List.drop_of_length_le (by omega), List.append_nil]
theorem same_loop {n C : Nat} (L : Nat → Nat → Option Bool) (hs : ∀ k i, i < n → C ≤ k → L (k + 1) i = L k (i + 1)) (he : ∀ k, L (k + 1) n = some true) (k : Nat) (hk : n + C < k) : L k 0 = some true := by
 have h := for_st n (fun k' i (_ : Unit) => L (k' + C) i) (fun _ => ()) true ?_ ?_ (k - C) 0 (Nat.zero_le _) (by omega)
 ·rw [show k - C + C = k by omega] at h; exact h
 ·intro k' i hi; rw [show k' + 1 + C = (k' + C) + 1 by omega, hs _ _ hi (by omega)]
 ·intro k'; rw [show k' + 1 + C = (k' + C) + 1 by omega, he]
def wordsB (l : List Int) (n : Int) : Bool := decide ((l.length : Int) = n) && l.all (fun x => decide (0 ≤ x ∧ x ≤ 65535))
theorem wordsB_24 {l : List Int} (h : wordsB l 24 = true) : l.length = 24 := by unfold wordsB at h; rw [Bool.and_eq_true] at h; have := of_decide_eq_true h.1; omega
theorem for_stC {σ ρ : Type} (C n : Nat) (L : Nat → Nat → σ → Option ρ) (st : Nat → σ) (r : ρ) (hs : ∀ k i, C ≤ k → i < n → L (k + 1) i (st i) = L k (i + 1) (st (i + 1))) (he : ∀ k, C ≤ k → L (k + 1) n (st n) = some r) :
  ∀ (k i : Nat), i ≤ n → n + C < i + k → L k i (st i) = some r
 | 0, i, hi, hk => by omega
 | k + 1, i, hi, hk => by
  by_cases h : i < n
  ·rw [hs k i (by omega) h]; exact for_stC C n L st r hs he k (i + 1) (by omega) (by omega)
  ·have : i = n := by omega
   subst this; exact he k (by omega)
theorem toIntS_eq (l : List Int) (hl : l.length ≤ 1048576) (k : Nat) (hk : l.length < k) : laws_toIntS.f k l = some l := by
 unfold laws_toIntS.f
 rw [if_pos (by omega), if_pos (by simp; omega)]
 have h := for_st l.length (fun k i s => laws_toIntS.l0 k l s (i : Int)) (fun i => l.take i ++ (List.replicate l.length 0).drop i) l ?_ ?_ k 0 (Nat.zero_le _) (by omega)
 ·simpa using h
 ·intro k i hi
  simp only [laws_toIntS.l0]
  rw [if_pos (by omega), if_pos (by omega), if_pos (by simp; omega), wrap_succ (by omega), rd_nat l i hi]
  simp only [Int.toNat_natCast]
  rw [set_step _ _ _ hi (by simp)]
 ·intro k
  simp only [laws_toIntS.l0]
  rw [if_neg (by omega)]; simp
theorem eqIntS_eq (a b : List Int) (hl : a.length ≤ 1048576) (k : Nat) (hk : a.length < k) : laws_eqIntS.f k a b = some (decide (a = b)) := by
 unfold laws_eqIntS.f
 by_cases h : a.length = b.length
 ·rw [if_pos (by omega)]
  refine for_all (L := fun k i => laws_eqIntS.l0 k a b (i : Int)) (n := a.length) (fun j => rd a (j : Int) = rd b (j : Int)) ?_ ?_ true ?_ ?_ k hk
  ·intro k i hi hp
   simp only [laws_eqIntS.l0]
   rw [if_pos (by omega), if_pos (by omega), if_pos (by omega), if_pos hp, wrap_succ (by omega)]
  ·intro k i hi hp
   simp only [laws_eqIntS.l0]
   rw [if_pos (by omega), if_pos (by omega), if_pos (by omega), if_neg hp]
  ·intro k
   simp only [laws_eqIntS.l0]
   rw [if_neg (by omega)]
  ·rw [decide_eq_true_iff, eq_iff_all a b h]; simp
 ·rw [if_neg (by omega)]
  have : a ≠ b := fun hh => h (by rw [hh])
  simp [this]
theorem l1In_eq (x lo hi : Int) : spec_l1In.f x lo hi = some (decide (lo ≤ x ∧ x ≤ hi)) := by
 unfold spec_l1In.f
 by_cases h : x ≥ lo
 ·rw [if_pos h]; have h' : lo ≤ x := h; simp [h']
 ·rw [if_neg h]; have h' : ¬ lo ≤ x := h; simp [h']
theorem from_eq (x lo hi : Int) : impl_from.f x lo hi = some (decide (lo ≤ x ∧ x ≤ hi)) := by
 unfold impl_from.f
 by_cases h : x ≥ lo
 ·rw [if_pos h]; have h' : lo ≤ x := h; simp [h']
 ·rw [if_neg h]; have h' : ¬ lo ≤ x := h; simp [h']
theorem isWord_eq (x : Int) : impl_isWord.f x = some (decide (0 ≤ x ∧ x ≤ 65535)) := by
 unfold impl_isWord.f; rw [from_eq]; rfl
theorem l1Words_eq (l : List Int) (n : Int) (hl : l.length ≤ 2097152) (k : Nat) (hk : l.length < k) : spec_l1Words.f k l n = some (wordsB l n) := by
 unfold spec_l1Words.f
 refine for_all (L := fun k i => spec_l1Words.l0 k l n (i : Int)) (n := l.length) (fun j => 0 ≤ rd l (j : Int) ∧ rd l (j : Int) ≤ 65535) ?_ ?_ (decide ((l.length : Int) = n)) ?_ ?_ k hk
 ·intro k i hi hp
  simp only [spec_l1Words.l0]
  rw [if_pos (by omega), if_pos (by omega), l1In_eq, decide_eq_true hp, Option.bind_some, if_pos rfl, wrap_succ (by omega)]
 ·intro k i hi hp
  simp only [spec_l1Words.l0]
  rw [if_pos (by omega), if_pos (by omega), l1In_eq, decide_eq_false hp, Option.bind_some, if_neg (by simp)]
 ·intro k
  simp only [spec_l1Words.l0]
  rw [if_neg (by omega)]; rfl
 ·unfold wordsB
  rw [Bool.and_eq_true, List.all_eq_true]
  constructor
  ·rintro ⟨h1, h2⟩; exact ⟨fun j hj => of_decide_eq_true (h2 _ (rd_mem l j hj)), h1⟩
  ·rintro ⟨h1, h2⟩; refine ⟨h2, fun x hx => ?_⟩
   obtain ⟨j, hj, rfl⟩ := List.getElem_of_mem hx
   have := h1 j hj; rw [rd_nat l j hj] at this; exact decide_eq_true this
theorem wordsOk_eq (l : List Int) (n : Int) (hl : l.length ≤ 2097152) (k : Nat) (hk : l.length < k) : impl_wordsOk.f k l n = some (wordsB l n) := by
 unfold impl_wordsOk.f
 by_cases h : (l.length : Int) = n
 ·rw [if_pos h]
  unfold slices_ContainsFunc_at_impl_wordsOk_1.f slices_IndexFunc_at_impl_wordsOk_1.f
  have hf : ∀ x, impl_wordsOk_1.f x = some (!decide (0 ≤ x ∧ x ≤ 65535)) := fun x => by unfold impl_wordsOk_1.f; rw [isWord_eq]; rfl
  have hs : ∀ k i, i < l.length → ¬ ¬ (0 ≤ rd l (i : Int) ∧ rd l (i : Int) ≤ 65535) → slices_IndexFunc_at_impl_wordsOk_1.l0 (k + 1) l (l.length : Int) (i : Int) = slices_IndexFunc_at_impl_wordsOk_1.l0 k l (l.length : Int) ((i + 1 : Nat) : Int) := by
   intro k i hi hp
   simp only [slices_IndexFunc_at_impl_wordsOk_1.l0]
   rw [if_pos (by omega), if_pos (by omega), if_pos (by omega), hf, decide_eq_true (Classical.not_not.1 hp), Option.bind_some, if_neg (by simp), wrap_succ (by omega)]
  have hb : ∀ k i, i < l.length → ¬ (0 ≤ rd l (i : Int) ∧ rd l (i : Int) ≤ 65535) → slices_IndexFunc_at_impl_wordsOk_1.l0 (k + 1) l (l.length : Int) (i : Int) = some (i : Int) := by
   intro k i hi hp
   simp only [slices_IndexFunc_at_impl_wordsOk_1.l0]
   rw [if_pos (by omega), if_pos (by omega), if_pos (by omega), hf, decide_eq_false hp, Option.bind_some, if_pos (by simp)]
  have he : ∀ k, slices_IndexFunc_at_impl_wordsOk_1.l0 (k + 1) l (l.length : Int) (l.length : Int) = some (-1) := by
   intro k
   simp only [slices_IndexFunc_at_impl_wordsOk_1.l0]
   rw [if_neg (by omega)]
  rcases for_find l.length (fun k i => slices_IndexFunc_at_impl_wordsOk_1.l0 k l (l.length : Int) (i : Int)) (fun j => ¬ (0 ≤ rd l (j : Int) ∧ rd l (j : Int) ≤ 65535)) (fun j => (j : Int)) (-1) hs hb he k 0 (Nat.zero_le _) (by omega) with ⟨j, _, h2, h3, _, h5⟩ | ⟨h1, h2⟩
  ·have h5' : slices_IndexFunc_at_impl_wordsOk_1.l0 k l (l.length : Int) 0 = some (j : Int) := h5
   rw [h5']
   simp only [Option.bind_some]; congr 1; symm
   rw [decide_eq_true (by omega : (j : Int) ≥ 0), Bool.not_true, wordsB, Bool.and_eq_false_iff]; right
   rw [Bool.eq_false_iff]; intro hh
   exact h3 (of_decide_eq_true (List.all_eq_true.1 hh _ (rd_mem l j h2)))
  ·have h2' : slices_IndexFunc_at_impl_wordsOk_1.l0 k l (l.length : Int) 0 = some (-1) := h2
   rw [h2']
   simp only [Option.bind_some]; congr 1; symm
   rw [decide_eq_false (by omega : ¬ (-1 : Int) ≥ 0), Bool.not_false, wordsB, decide_eq_true h, Bool.true_and, List.all_eq_true]
   intro x hx
   obtain ⟨j, hj, rfl⟩ := List.getElem_of_mem hx
   have := Classical.not_not.1 (h1 j (Nat.zero_le _) hj); rw [rd_nat l j hj] at this; exact decide_eq_true this
 ·rw [if_neg h, wordsB, decide_eq_false h, Bool.false_and]
theorem memOk_eq (l : List Int) (hl : l.length ≤ 2097152) (k : Nat) (hk : l.length < k) : impl_memOk.f k l = some (wordsB l 24) := by
 unfold impl_memOk.f; rw [wordsOk_eq l 24 hl k hk]; rfl
theorem rdDidI (l : List S42) (i : Nat) (h : i < l.length) : rd_T42 l (i : Int) = l[i] := by
 unfold rd_T42; simp [List.getD, h]
theorem rdDidL (l : List S44) (i : Nat) (h : i < l.length) : rd_T44 l (i : Int) = l[i] := by
 unfold rd_T44; simp [List.getD, h]
theorem rdLI (l : List (List S42)) (i : Nat) (h : i < l.length) : rd_L4 l (i : Int) = l[i] := by
 unfold rd_L4; simp [List.getD, h]
theorem rdLL (l : List (List S44)) (i : Nat) (h : i < l.length) : rd_L2 l (i : Int) = l[i] := by
 unfold rd_L2; simp [List.getD, h]
def toDidV (x : S44) : S42 := ⟨x.f0, x.f1, x.f2⟩
theorem toDidS_eq (l : List S44) (hl : l.length ≤ 1048576) (k : Nat) (hk : 1048580 < k) : laws_toDidS.f k l = some (l.map toDidV) := by
 unfold laws_toDidS.f
 rw [if_pos (by omega), if_pos (by simp; omega)]
 refine to_loop (C := 0) (l.map toDidV) _ (by simp) (fun k i s => laws_toDidS.l0 k l s (i : Int)) ?_ ?_ k (by simp; omega)
 ·intro k i s hi _ hsl
  have hi' : i < l.length := by simpa using hi
  simp only [laws_toDidS.l0]
  rw [if_pos (by omega), if_pos (by omega), rdDidL l i hi', laws_toDid.f, Option.bind_some, if_pos (by simp at hsl; omega), wrap_succ (by omega), Int.toNat_natCast]
  simp [toDidV]
 ·intro k s
  simp only [laws_toDidS.l0]
  rw [if_neg (by simp)]
theorem toDidSS_eq (l : List (List S44)) (hl : l.length ≤ 1048576) (hx : ∀ x ∈ l, x.length ≤ 1048576) (k : Nat) (hk : 3000000 < k) : laws_toDidSS.f k l = some (l.map (·.map toDidV)) := by
 unfold laws_toDidSS.f
 rw [if_pos (by omega), if_pos (by simp; omega)]
 refine to_loop (C := 1048581) (l.map (·.map toDidV)) (List.replicate ((l.length : Int) : Int).toNat []) (by simp) (fun k i s => laws_toDidSS.l0 k l s (i : Int)) ?_ ?_ k (by simp; omega)
 ·intro k i s hi hC hsl
  have hi' : i < l.length := by simpa using hi
  simp only [laws_toDidSS.l0]
  rw [if_pos (by omega), if_pos (by omega), rdLL l i hi', toDidS_eq _ (hx _ (List.getElem_mem hi')) k (by omega), Option.bind_some, if_pos (by simp at hsl; omega), wrap_succ (by omega), Int.toNat_natCast]
  simp
 ·intro k s
  simp only [laws_toDidSS.l0]
  rw [if_neg (by simp)]
theorem szDidSS_ex (l : List (List S44)) (hm : l.length ≤ maxLen) (hx : ∀ x ∈ l, x.length ≤ maxLen) (k : Nat) (hk : 3000000 < k) : ∃ r, laws_szDidSS.f k l 1048576 = some r ∧ (0 ≤ r → l.length ≤ 1048576 ∧ ∀ x ∈ l, x.length ≤ 1048576) := by
 unfold laws_szDidSS.f
 have e : wrap64 (1048576 - (l.length : Int)) = 1048576 - (l.length : Int) := by unfold maxLen at hm; unfold wrap64; omega
 rw [e]
 by_cases h : (1048576 : Int) - (l.length : Int) < 0
 ·rw [if_pos h]; exact ⟨_, rfl, fun h => by omega⟩
 ·rw [if_neg h]
  have H := sz_loop (n := l.length) (C := 0) (M := 1048576) (fun k i a => laws_szDidSS.l0 k l a (i : Int)) (fun i => ∀ x, l[i]? = some x → x.length ≤ 1048576) ?_ ?_ k 0 (1048576 - (l.length : Int)) (Nat.zero_le _) (by omega) (by omega) (by omega)
  ·obtain ⟨r, e, hr, hp⟩ := H
   refine ⟨r, e, fun h => ⟨by omega, fun x hx => ?_⟩⟩
   obtain ⟨j, hj, rfl⟩ := List.getElem_of_mem hx
   exact hp h j (Nat.zero_le _) hj _ (List.getElem?_eq_getElem hj)
  ·intro k i a hi hk h0 h1
   have hxi := hx _ (List.getElem_mem hi)
   have e2 : wrap64 (a - ((l[i]).length : Int)) = a - ((l[i]).length : Int) := by unfold maxLen at hxi; unfold wrap64; omega
   simp only [laws_szDidSS.l0]
   rw [if_pos (by omega), if_pos (by omega), rdLL l i hi, laws_szDidS.f, e2]
   by_cases hh : a - ((l[i]).length : Int) < 0
   ·rw [if_pos hh, Option.bind_some, if_pos (by omega)]; exact .inl ⟨_, by omega, rfl⟩
   ·rw [if_neg hh, Option.bind_some, if_neg hh, wrap_succ (by omega)]
    exact .inr ⟨_, by omega, by omega, fun x hx' => by rw [List.getElem?_eq_getElem hi] at hx'; rw [← Option.some.inj hx']; omega, rfl⟩
  ·intro k a
   simp only [laws_szDidSS.l0]
   rw [if_neg (by omega)]
theorem eqDidS_same' (l : List S42) (hl : l.length ≤ 2097152) (k : Nat) (hk : l.length < k) : laws_eqDidS.f k l l = some true := by
 unfold laws_eqDidS.f
 rw [if_pos rfl]
 have h := for_st l.length (fun k' i (_ : Unit) => laws_eqDidS.l0 k' l l (i : Int)) (fun _ => ()) true ?_ ?_ k 0 (Nat.zero_le _) (by omega)
 ·exact h
 ·intro k' i hi
  rw [laws_eqDidS.l0, if_pos (by omega), if_pos (by omega), if_pos (by omega), rdDidI l i hi, show laws_eqDid.f l[i].f0 l[i].f1 l[i].f2 l[i].f0 l[i].f1 l[i].f2 = some true from (by unfold laws_eqDid.f; simp), Option.bind_some, if_pos rfl, wrap_succ (by omega)]
 ·intro k'
  rw [laws_eqDidS.l0, if_neg (by omega)]
theorem eqDidSS_same (l : List (List S42)) (hl : l.length ≤ 2097152) (hx : ∀ h ∈ l, h.length ≤ 2097152) (k : Nat) (hk : 4200000 < k) : laws_eqDidSS.f k l l = some true := by
 unfold laws_eqDidSS.f
 rw [if_pos rfl]
 have h := same_loop (n := l.length) (C := 2097160) (fun k' i => laws_eqDidSS.l0 k' l l (i : Int)) ?_ ?_ k (by omega)
 ·exact h
 ·intro k' i hi hC
  simp only [laws_eqDidSS.l0]
  rw [if_pos (by omega), if_pos (by omega), if_pos (by omega), rdLI l i hi, eqDidS_same' _ (hx _ (List.getElem_mem hi)) k' (by have := hx _ (List.getElem_mem hi); omega), Option.bind_some, if_pos rfl, wrap_succ (by omega)]
 ·intro k'
  simp only [laws_eqDidSS.l0]
  rw [if_neg (by omega)]
def okD (m : List Int) (d : S42) : Bool := decide (0 ≤ d.f0 ∧ d.f0 ≤ 23) && !(decide (d.f1 ≥ 0) && (d.f1 != rd m d.f0))
def putD (m : List Int) (d : S42) : List Int := if d.f2 ≥ 0 then m.set d.f0.toNat d.f2 else m
theorem putD_length (m : List Int) (d : S42) : (putD m d).length = m.length := by unfold putD; split <;> simp
def someB : Nat → List Int → List (List S42) → Bool
 | 0, _, _ => true
 | n + 1, m, xs => (List.range' 0 xs.length).any fun i => match xs.getD i [] with
  | [] => false
  | d :: t => okD m d && someB n (putD m d) (xs.set i t)
def tryB (n : Nat) (m : List Int) (xs : List (List S42)) (i : Nat) : Bool := match xs.getD i [] with
 | [] => false
 | d :: t => okD m d && someB n (putD m d) (xs.set i t)
theorem someB_succ (n : Nat) (m : List Int) (xs : List (List S42)) : someB (n + 1) m xs = (List.range' 0 xs.length).any (tryB n m xs) := by
 rw [someB]; rfl
theorem tryB_nil {n : Nat} {m : List Int} {xs : List (List S42)} {i : Nat} (h : xs.getD i [] = []) : tryB n m xs i = false := by unfold tryB; rw [h]
theorem tryB_cons {n : Nat} {m : List Int} {xs : List (List S42)} {i : Nat} {d : S42} {t : List S42} (h : xs.getD i [] = d :: t) : tryB n m xs i = (okD m d && someB n (putD m d) (xs.set i t)) := by unfold tryB; rw [h]
def restL (ls : List (List S42)) (at_ : List Int) : List (List S42) := (List.range ls.length).map fun i => (ls.getD i []).drop (at_.getD i 0).toNat
theorem restL_length (ls : List (List S42)) (at_ : List Int) : (restL ls at_).length = ls.length := by simp [restL]
theorem restL_get (ls : List (List S42)) (at_ : List Int) (i : Nat) (h : i < ls.length) : (restL ls at_).getD i [] = (ls[i]).drop (at_.getD i 0).toNat := by
 simp [restL, List.getD_eq_getElem?_getD, h]
theorem restL_set (ls : List (List S42)) (at_ : List Int) (i : Nat) (h : i < ls.length) (ha : at_.length = ls.length) (v : Int) : restL ls (at_.set i v) = (restL ls at_).set i ((ls[i]).drop v.toNat) := by
 apply List.ext_getElem?
 intro j
 by_cases hj : j < ls.length
 ·by_cases e : i = j
  ·subst e
   rw [List.getElem?_set_self (by rw [restL_length]; exact h)]
   simp [restL, h, List.getD_eq_getElem?_getD, ha]
  ·rw [List.getElem?_set_ne e]
   simp [restL, hj, List.getD_eq_getElem?_getD, e]
 ·rw [List.getElem?_eq_none (by rw [restL_length]; omega), List.getElem?_eq_none (by rw [List.length_set, restL_length]; omega)]
theorem set_back (m : List Int) (a : Nat) (h : a < m.length) (v : Int) : (m.set a v).set a (rd m (a : Int)) = m := by
 rw [List.set_set, rd_nat _ _ h, List.set_getElem_self]
theorem range'_any (i d : Nat) (f : Nat → Bool) : (List.range' i (d + 1)).any f = (f i || (List.range' (i + 1) d).any f) := by
 rw [List.range'_succ, List.any_cons]
theorem specGo_j1 {k : Nat} {m at_ : List Int} {ls : List (List S42)} {n x9 : Int} (d : S42) (hm : m.length = 24) : ((spec_l1In.f d.f0 0 23).bind fun t111 => (if t111 = true then (if d.f1 ≥ 0 then (if 0 ≤ d.f0 then (if d.f0 < (m.length : Int) then (spec_l21Go.j1 k m ls at_ n x9 (d.f1 != (rd m d.f0)) d.f0 d.f1 d.f2) else (none)) else (none)) else (spec_l21Go.j1 k m ls at_ n x9 false d.f0 d.f1 d.f2)) else (spec_l21Go.j1 k m ls at_ n x9 true d.f0 d.f1 d.f2))) = spec_l21Go.j1 k m ls at_ n x9 (!okD m d) d.f0 d.f1 d.f2 := by
 rw [l1In_eq, Option.bind_some]
 unfold okD
 by_cases h : 0 ≤ d.f0 ∧ d.f0 ≤ 23
 ·rw [decide_eq_true (show 0 ≤ d.f0 ∧ d.f0 ≤ 23 from h), if_pos rfl]
  by_cases h1 : d.f1 ≥ 0
  ·rw [if_pos h1, if_pos h.1, if_pos (by omega), decide_eq_true h1]; simp
  ·rw [if_neg h1, decide_eq_false h1]; simp
 ·rw [decide_eq_false (show ¬ (0 ≤ d.f0 ∧ d.f0 ≤ 23) from h), if_neg (by simp)]; simp
theorem specGo (ls : List (List S42)) (hl : ls.length ≤ 8) (hx : ∀ x ∈ ls, x.length ≤ 1048576) : ∀ (n : Nat), n ≤ 12 → ∀ (m at_ : List Int), m.length = 24 → at_.length = ls.length → (∀ i : Nat, i < ls.length → 0 ≤ rd at_ (i : Int)) →
  ∃ p : List Int × List Int, (someB n m (restL ls at_) = false → p = (m, at_)) ∧ ∀ k, 40 * (n + 1) < k → spec_l21Go.f k m ls at_ (n : Int) = some (someB n m (restL ls at_), p.1, p.2)
 | 0, _, m, at_, hm, ha, h0 => by
  refine ⟨(m, at_), fun _ => rfl, fun k hk => ?_⟩
  obtain ⟨k, rfl⟩ : ∃ m, k = m + 1 := ⟨k - 1, by omega⟩
  rw [spec_l21Go.f, if_pos (show ((0 : Nat) : Int) = 0 from rfl)]; rfl
 | n + 1, hn, m, at_, hm, ha, h0 => by
  have ih := specGo ls hl hx n (by omega)
  have loop : ∀ (d i : Nat), i + d = ls.length → ∃ p : List Int × List Int, ((List.range' i d).any (tryB n m (restL ls at_)) = false → p = (m, at_)) ∧ ∀ k, 40 * (n + 1) + 3 * d + 3 < k → spec_l21Go.l0 k m ls at_ ((n + 1 : Nat) : Int) (i : Int) = some ((List.range' i d).any (tryB n m (restL ls at_)), p.1, p.2) := by
   intro d
   induction d with
   | zero =>
    intro i hi
    refine ⟨(m, at_), fun _ => rfl, fun k hk => ?_⟩
    obtain ⟨k, rfl⟩ : ∃ m, k = m + 1 := ⟨k - 1, by omega⟩
    rw [spec_l21Go.l0, if_neg (by omega)]; rfl
   | succ d ihd =>
    intro i hi
    obtain ⟨p1, hp1, e1⟩ := ihd (i + 1) (by omega)
    have hil : i < ls.length := by omega
    have hg := restL_get ls at_ i hil
    have hai := h0 i hil
    have er : rd at_ (i : Int) = at_.getD i 0 := by rw [rd_nat _ _ (by omega)]; simp [List.getD_eq_getElem?_getD, show i < at_.length by omega]
    have hxi := hx _ (List.getElem_mem hil)
    by_cases hc : rd at_ (i : Int) ≥ ((ls[i]).length : Int)
    ·have hz : tryB n m (restL ls at_) i = false := tryB_nil (by rw [hg, List.drop_eq_nil_of_le (by rw [← er]; omega)])
     refine ⟨p1, fun h => hp1 (by rw [range'_any, hz, Bool.false_or] at h; exact h), fun k hk => ?_⟩
     obtain ⟨k, rfl⟩ : ∃ m, k = m + 1 := ⟨k - 1, by omega⟩
     rw [spec_l21Go.l0, if_pos (by omega), if_pos (by omega), if_pos (by omega), rdLI ls i hil, if_pos hc, wrap_succ (by omega), e1 k (by omega), range'_any, hz, Bool.false_or]
    ·obtain ⟨a, haa⟩ := Int.eq_ofNat_of_zero_le hai
     have hal : a < (ls[i]).length := by omega
     have hcons : (restL ls at_).getD i [] = (ls[i])[a] :: (ls[i]).drop (a + 1) := by
      rw [hg, ← er, haa, Int.toNat_natCast, List.drop_eq_getElem_cons hal]
     have hset : restL ls (at_.set i ((a : Int) + 1)) = (restL ls at_).set i ((ls[i]).drop (a + 1)) := by
      rw [restL_set ls at_ i hil ha]; congr 1
     have ht := tryB_cons (n := n) (m := m) hcons
     obtain ⟨p2, hp2, e2⟩ := ih (putD m (ls[i])[a]) (at_.set i ((a : Int) + 1)) (by rw [putD_length]; exact hm) (by rw [List.length_set]; exact ha) (fun j hj => by
      by_cases e : i = j
      ·subst e; rw [rd_nat _ _ (by rw [List.length_set]; omega), List.getElem_set_self]; omega
      ·have := h0 j hj; rw [rd_nat _ _ (by omega)] at this; rw [rd_nat _ _ (by rw [List.length_set]; omega), List.getElem_set_ne e]; exact this)
     rw [hset] at hp2 e2
     have hstep : ∀ k, spec_l21Go.l0 (k + 1) m ls at_ ((n + 1 : Nat) : Int) (i : Int) = spec_l21Go.j1 k m ls at_ ((n + 1 : Nat) : Int) (i : Int) (!okD m (ls[i])[a]) (ls[i])[a].f0 (ls[i])[a].f1 (ls[i])[a].f2 := by
      intro k
      rw [spec_l21Go.l0, if_pos (by omega), if_pos (by omega), if_pos (by omega), rdLI ls i hil, if_neg hc, if_pos hai, if_pos (by omega), haa, rdDidI _ a hal, specGo_j1 _ hm]
     by_cases hok : okD m (ls[i])[a] = true
     ·have hf : 0 ≤ (ls[i])[a].f0 ∧ (ls[i])[a].f0 ≤ 23 := by unfold okD at hok; rw [Bool.and_eq_true] at hok; exact of_decide_eq_true hok.1
      obtain ⟨b, hb⟩ := Int.eq_ofNat_of_zero_le hf.1
      have hput : ∀ k, spec_l21Go.j1 (k + 1) m ls at_ ((n + 1 : Nat) : Int) (i : Int) false (ls[i])[a].f0 (ls[i])[a].f1 (ls[i])[a].f2 = (spec_l21Go.f k (putD m (ls[i])[a]) ls (at_.set i ((a : Int) + 1)) (n : Int)).bind fun bt117 => (if bt117.1 = true then (some (true, bt117.2.1, bt117.2.2)) else (spec_l21Go.l0 k (bt117.2.1.set ((ls[i])[a].f0 : Int).toNat (rd m (ls[i])[a].f0)) ls (bt117.2.2.set (i : Int).toNat (wrap64 ((rd bt117.2.2 (i : Int)) - 1))) ((n + 1 : Nat) : Int) (wrap64 ((i : Int) + 1)))) := by
       intro k
       have ew : wrap64 (rd at_ (i : Int) + 1) = (a : Int) + 1 := by rw [haa]; exact wrap_small (by omega) (by omega)
       have ew2 : wrap64 (((n + 1 : Nat) : Int) - 1) = (n : Int) := by rw [wrap_small (by omega) (by omega)]; omega
       rw [spec_l21Go.j1, if_neg (by simp), if_pos hf.1, if_pos (by omega)]
       unfold putD
       by_cases h2 : (ls[i])[a].f2 ≥ 0
       ·rw [if_pos h2, if_pos (by omega), if_pos (by omega), ew, ew2, if_pos h2, Int.toNat_natCast]
       ·rw [if_neg h2, if_pos (by omega), if_pos (by omega), ew, ew2, if_neg h2, Int.toNat_natCast]
      by_cases hs : someB n (putD m (ls[i])[a]) ((restL ls at_).set i ((ls[i]).drop (a + 1))) = true
      ·have htt : tryB n m (restL ls at_) i = true := by rw [ht, hok, hs]; rfl
       refine ⟨p2, fun h => by rw [range'_any, htt] at h; simp at h, fun k hk => ?_⟩
       obtain ⟨k, rfl⟩ : ∃ m, k = m + 1 + 1 := ⟨k - 2, by omega⟩
       rw [hstep, hok, Bool.not_true, hput, e2 k (by omega), Option.bind_some, if_pos hs, range'_any, htt, Bool.true_or]
      ·have hs' := Bool.eq_false_iff.2 hs
       have htt : tryB n m (restL ls at_) i = false := by rw [ht, hok, hs']; rfl
       obtain rfl := hp2 hs'
       refine ⟨p1, fun h => hp1 (by rw [range'_any, htt, Bool.false_or] at h; exact h), fun k hk => ?_⟩
       obtain ⟨k, rfl⟩ : ∃ m, k = m + 1 + 1 := ⟨k - 2, by omega⟩
       have eb1 : (putD m (ls[i])[a]).set ((ls[i])[a].f0 : Int).toNat (rd m (ls[i])[a].f0) = m := by
        unfold putD
        rw [hb, Int.toNat_natCast]
        by_cases h2 : (ls[i])[a].f2 ≥ 0
        ·rw [if_pos h2, set_back _ _ (by omega)]
        ·rw [if_neg h2]; have := set_back m b (by omega) 0; rw [List.set_set] at this; exact this
       have eb2 : (at_.set i ((a : Int) + 1)).set (i : Int).toNat (wrap64 ((rd (at_.set i ((a : Int) + 1)) (i : Int)) - 1)) = at_ := by
        rw [rd_nat _ _ (by rw [List.length_set]; omega), List.getElem_set_self, wrap_small (by omega) (by omega), show (a : Int) + 1 - 1 = rd at_ (i : Int) by omega, Int.toNat_natCast, set_back _ _ (by omega)]
       rw [hstep, hok, Bool.not_true, hput, e2 k (by omega), Option.bind_some, if_neg hs]
       dsimp only
       rw [eb1, eb2, wrap_succ (by omega), e1 k (by omega), range'_any, htt, Bool.false_or]
     ·have hok' := Bool.eq_false_iff.2 hok
      have htt : tryB n m (restL ls at_) i = false := by rw [ht, hok']; rfl
      refine ⟨p1, fun h => hp1 (by rw [range'_any, htt, Bool.false_or] at h; exact h), fun k hk => ?_⟩
      obtain ⟨k, rfl⟩ : ∃ m, k = m + 1 + 1 := ⟨k - 2, by omega⟩
      rw [hstep, hok', Bool.not_false, spec_l21Go.j1, if_pos rfl, wrap_succ (by omega), e1 k (by omega), range'_any, htt, Bool.false_or]
  obtain ⟨p, hp, e⟩ := loop ls.length 0 (by omega)
  have es : someB (n + 1) m (restL ls at_) = (List.range' 0 ls.length).any (tryB n m (restL ls at_)) := by rw [someB_succ, restL_length]
  refine ⟨p, fun h => hp (by rw [← es]; exact h), fun k hk => ?_⟩
  obtain ⟨k, rfl⟩ : ∃ m, k = m + 1 := ⟨k - 1, by omega⟩
  rw [spec_l21Go.f, if_neg (by omega), es]
  exact e k (by omega)
def tot (xs : List (List S42)) : Nat := (xs.map List.length).sum
theorem tot_set : ∀ (xs : List (List S42)) (i : Nat) (h : i < xs.length) (d : S42) (t : List S42), xs[i] = d :: t → tot xs = tot (xs.set i t) + 1
 | x :: xs, 0, _, d, t, e => by simp at e; subst e; simp [tot]; omega
 | x :: xs, i + 1, h, d, t, e => by
  have := tot_set xs i (by simpa using h) d t (by simpa using e)
  simp [tot] at this ⊢; omega
theorem tot_take : ∀ (xs : List (List S42)) (i : Nat) (h : i < xs.length), tot (xs.take (i + 1)) = tot (xs.take i) + (xs[i]).length
 | x :: xs, 0, _ => by simp [tot]
 | x :: xs, i + 1, h => by
  have := tot_take xs i (by simpa using h)
  simp [tot] at this ⊢; omega
theorem tot_take_le : ∀ (xs : List (List S42)) (i : Nat), (∀ x ∈ xs, x.length ≤ 1048576) → tot (xs.take i) ≤ i * 1048576
 | [], i, _ => by simp [tot]
 | x :: xs, 0, _ => by simp [tot]
 | x :: xs, i + 1, h => by
  have := tot_take_le xs i (fun y hy => h y (List.mem_cons_of_mem _ hy))
  have h1 := h x (List.mem_cons_self ..)
  simp [tot] at this ⊢; omega
theorem tot_zero : ∀ (xs : List (List S42)), tot xs = 0 → ∀ x ∈ xs, x = []
 | x :: xs, h, y, hy => by
  have h' : x.length + tot xs = 0 := by simpa [tot] using h
  rcases List.mem_cons.1 hy with rfl | hy
  ·exact List.eq_nil_of_length_eq_zero (by omega)
  ·exact tot_zero xs (by omega) y hy
theorem tot_nil : ∀ (xs : List (List S42)), (∀ x ∈ xs, x = []) → tot xs = 0
 | [], _ => rfl
 | x :: xs, h => by
  have h1 := h x (List.mem_cons_self ..)
  have h2 := tot_nil xs (fun y hy => h y (List.mem_cons_of_mem _ hy))
  subst h1; simp [tot] at h2 ⊢; exact h2
theorem implSome_j1 {k : Nat} {m : List Int} {ls : List (List S42)} {x7 : List S42} {x11 : List (List S42)} {n x9 : Int} (d : S42) (hm : m.length = 24) : ((impl_isCell.f d.f0).bind fun t180 => (if t180 = true then (if d.f1 ≥ 0 then (if 0 ≤ d.f0 then (if d.f0 < (m.length : Int) then (impl_some.j1 k m ls true x7 x11 n x9 (d.f1 != (rd m d.f0)) d.f0 d.f1 d.f2) else (none)) else (none)) else (impl_some.j1 k m ls true x7 x11 n x9 false d.f0 d.f1 d.f2)) else (impl_some.j1 k m ls true x7 x11 n x9 true d.f0 d.f1 d.f2))) = impl_some.j1 k m ls true x7 x11 n x9 (!okD m d) d.f0 d.f1 d.f2 := by
 unfold impl_isCell.f
 rw [from_eq, Option.bind_some, Option.bind_some]
 unfold okD
 by_cases h : 0 ≤ d.f0 ∧ d.f0 ≤ 23
 ·rw [decide_eq_true (show 0 ≤ d.f0 ∧ d.f0 ≤ 23 from h), if_pos rfl]
  by_cases h1 : d.f1 ≥ 0
  ·rw [if_pos h1, if_pos h.1, if_pos (by omega), decide_eq_true h1]; simp
  ·rw [if_neg h1, decide_eq_false h1]; simp
 ·rw [decide_eq_false (show ¬ (0 ≤ d.f0 ∧ d.f0 ≤ 23) from h), if_neg (by simp)]; simp
def fullB (xs : List (List S42)) (i : Nat) : Bool := !(xs.getD i []).isEmpty
theorem implSome : ∀ (n : Nat), n ≤ 12 → ∀ (m : List Int) (xs : List (List S42)), m.length = 24 → xs.length ≤ 8 → tot xs = n → ∀ k, 40 * (n + 1) < k → impl_some.f k m xs = some (someB n m xs) := by
 intro n
 induction n using Nat.strongRecOn with
 | _ n ih =>
 intro hn m xs hm hl htot k hk
 have loop : ∀ (d i : Nat) (b : Bool) (k : Nat), i + d = xs.length → 40 * n + 3 * d + 3 < k → impl_some.l0 k m xs b xs (xs.length : Int) (i : Int) = some ((List.range' i d).any (tryB (n - 1) m xs) || !(b || (List.range' i d).any (fullB xs))) := by
  intro d
  induction d with
  | zero =>
   intro i b k hi hk
   obtain ⟨k, rfl⟩ : ∃ m, k = m + 1 := ⟨k - 1, by omega⟩
   rw [impl_some.l0, if_neg (by omega)]; simp
  | succ d ihd =>
   intro i b k hi hk
   have hil : i < xs.length := by omega
   have hget : xs.getD i [] = xs[i] := by simp [List.getD_eq_getElem?_getD, hil]
   obtain ⟨k, rfl⟩ : ∃ m, k = m + 1 := ⟨k - 1, by omega⟩
   rw [impl_some.l0, if_pos (by omega), if_pos (by omega), if_pos (by omega), rdLI xs i hil]
   cases hx : xs[i] with
   | nil =>
    rw [if_pos (by simp), wrap_succ (by omega), ihd (i + 1) b k (by omega) (by omega), range'_any, range'_any, tryB_nil (by rw [hget, hx]), show fullB xs i = false by unfold fullB; rw [hget, hx]; rfl, Bool.false_or, Bool.false_or]
   | cons d0 t =>
    have hn1 : 1 ≤ n := by have := tot_set xs i hil d0 t hx; omega
    have hfull : fullB xs i = true := by unfold fullB; rw [hget, hx]; rfl
    have ht := tryB_cons (n := n - 1) (m := m) (hget.trans hx)
    have e0 : rd_T42 (d0 :: t) 0 = d0 := rdDidI (d0 :: t) 0 (by simp)
    rw [if_neg (by rw [List.length_cons]; omega), if_pos (by rw [List.length_cons]; omega), e0, implSome_j1 d0 hm]
    obtain ⟨k, rfl⟩ : ∃ m, k = m + 1 := ⟨k - 1, by omega⟩
    have erest : ∀ b' : Bool, b' = false → some ((List.range' (i + 1) d).any (tryB (n - 1) m xs) || !(true || (List.range' (i + 1) d).any (fullB xs))) = some ((b' || (List.range' (i + 1) d).any (tryB (n - 1) m xs)) || !(b || (true || (List.range' (i + 1) d).any (fullB xs)))) := by
     intro b' hb'; subst hb'; simp
    rw [range'_any, range'_any, hfull]
    by_cases hok : okD m d0 = true
    ·have hf : 0 ≤ d0.f0 ∧ d0.f0 ≤ 23 := by unfold okD at hok; rw [Bool.and_eq_true] at hok; exact of_decide_eq_true hok.1
     have hih := ih (n - 1) (by omega) (by omega) (putD m d0) (xs.set i t) (by rw [putD_length]; exact hm) (by simpa using hl) (by have := tot_set xs i hil d0 t hx; omega) k (by omega)
     have hput : impl_some.j1 (k + 1) m xs true (d0 :: t) xs (xs.length : Int) (i : Int) false d0.f0 d0.f1 d0.f2 = (impl_some.f k (putD m d0) (xs.set i t)).bind fun t190 => (if t190 = true then (some true) else (impl_some.l0 k m xs true xs (xs.length : Int) (wrap64 ((i : Int) + 1)))) := by
      rw [impl_some.j1, if_neg (by simp)]
      unfold slices_Clone_int_int.f putD
      rw [if_pos (by omega), Option.bind_some]
      by_cases h2 : d0.f2 ≥ 0
      ·rw [if_pos h2, if_pos hf.1, if_pos (by omega), if_pos (by simp; omega), if_pos h2, Int.toNat_natCast]; rfl
      ·rw [if_neg h2, if_pos (by simp; omega), if_neg h2, Int.toNat_natCast]; rfl
     rw [hok, Bool.not_true, hput, hih, Option.bind_some, ht, hok, Bool.true_and]
     cases hs : someB (n - 1) (putD m d0) (xs.set i t) with
     | true => rw [if_pos rfl]; simp
     | false => rw [if_neg (by simp), wrap_succ (by omega), ihd (i + 1) true k (by omega) (by omega), erest _ rfl]
    ·have hok' := Bool.eq_false_iff.2 hok
     rw [hok', Bool.not_false, impl_some.j1, if_pos rfl, wrap_succ (by omega), ihd (i + 1) true k (by omega) (by omega), ht, hok', Bool.false_and, erest _ rfl]
 obtain ⟨k, rfl⟩ : ∃ m, k = m + 1 := ⟨k - 1, by omega⟩
 rw [impl_some.f, if_pos (by omega)]
 have h := loop xs.length 0 false k (by omega) (by omega)
 rw [show ((0 : Nat) : Int) = 0 from rfl] at h
 rw [h]
 cases n with
 | zero =>
  have hz := tot_zero xs htot
  have hf : (List.range' 0 xs.length).any (fullB xs) = false := by
   rw [List.any_eq_false]
   intro i hi
   rw [List.mem_range'_1] at hi
   have hil : i < xs.length := by omega
   unfold fullB
   rw [show xs.getD i [] = xs[i] by simp [List.getD_eq_getElem?_getD, hil], hz _ (List.getElem_mem hil)]; simp
  rw [hf]; simp [someB]
 | succ n =>
  have hf : (List.range' 0 xs.length).any (fullB xs) = true := by
   rcases Bool.eq_false_or_eq_true ((List.range' 0 xs.length).any (fullB xs)) with h | h
   ·exact h
   ·exfalso
    rw [List.any_eq_false] at h
    have h0 : tot xs = 0 := by
     have : ∀ x ∈ xs, x = [] := by
      intro x hx
      obtain ⟨j, hj, rfl⟩ := List.getElem_of_mem hx
      have := h j (by rw [List.mem_range'_1]; omega)
      unfold fullB at this
      rw [show xs.getD j [] = xs[j] by simp [List.getD_eq_getElem?_getD, hj]] at this
      simpa using this
     exact tot_nil xs this
    omega
  rw [hf, someB_succ]; simp
def seqB (m : List Int) (xs : List (List S42)) : Bool := wordsB m 24 && (decide (xs.length ≤ 8) && (decide (tot xs ≤ 12) && someB (tot xs) m xs))
theorem specSeqOk_eq (m : List Int) (xs : List (List S42)) (hm : m.length ≤ 1048576) (hl : xs.length ≤ 1048576) (hx : ∀ x ∈ xs, x.length ≤ 1048576) (k : Nat) (hk : 4200000 < k) : spec_SeqOk.f k m xs = some (seqB m xs) := by
 unfold spec_SeqOk.f
 have hb : ∀ i, i ≤ xs.length → tot (xs.take i) ≤ 1099511627776 := fun i hi => by have := tot_take_le xs i hx; omega
 refine for_stC 2000000 xs.length (fun k i (s : Int) => spec_SeqOk.l0 k m xs s (i : Int)) (fun i => (tot (xs.take i) : Int)) (seqB m xs) ?_ ?_ k 0 (Nat.zero_le _) (by omega)
 ·intro k i hC hi
  have hs := tot_take xs i hi
  have h1 := hb i (by omega)
  have h2 := hb (i + 1) (by omega)
  simp only [spec_SeqOk.l0]
  rw [if_pos (by omega), if_pos (by omega), rdLI xs i hi, wrap_succ (by omega), wrap_small (by omega) (by omega), hs]
  congr 1; try omega
 ·intro k hC
  have ht : tot (xs.take xs.length) = tot xs := by rw [List.take_length]
  simp only [spec_SeqOk.l0]
  rw [if_neg (by omega), l1Words_eq m 24 (by omega) k (by omega), Option.bind_some, ht]
  unfold seqB
  cases hw : wordsB m 24 with
  | false => rw [if_neg (by simp)]; rfl
  | true =>
   have hm24 := wordsB_24 hw
   rw [if_pos rfl, Bool.true_and]
   by_cases h8 : xs.length ≤ 8
   ·rw [if_neg (by omega), decide_eq_true h8, Bool.true_and]
    by_cases h12 : tot xs ≤ 12
    ·rw [if_neg (by omega), decide_eq_true h12, Bool.true_and, Option.bind_some, if_pos (by simp; omega), if_pos (by omega), if_pos (by simp; omega), Int.toNat_natCast]
     obtain ⟨p, _, e⟩ := specGo xs h8 hx (tot xs) h12 m (List.replicate xs.length 0) hm24 (by simp) (fun i hi => by rw [rd_nat _ _ (by simpa using hi)]; simp)
     have er : restL xs (List.replicate xs.length 0) = xs := by
      apply List.ext_getElem
      ·rw [restL_length]
      ·intro j h1 h2
       have h3 := restL_get xs (List.replicate xs.length 0) j h2
       rw [List.getD_eq_getElem?_getD, List.getElem?_eq_getElem h1, Option.getD_some] at h3
       rw [h3]; simp [List.getD_eq_getElem?_getD, h2]
     rw [er] at e
     rw [List.nil_append, e k (by omega), Option.bind_some]
    ·rw [if_pos (by omega), decide_eq_false h12, Bool.false_and]
   ·rw [if_pos (by omega), decide_eq_false h8, Bool.false_and]
theorem implSeqOk_eq (m : List Int) (xs : List (List S42)) (hm : m.length ≤ 1048576) (hl : xs.length ≤ 1048576) (hx : ∀ x ∈ xs, x.length ≤ 1048576) (k : Nat) (hk : 4200000 < k) : impl_SeqOk.f k m xs = some (seqB m xs) := by
 unfold impl_SeqOk.f
 have hb : ∀ i, i ≤ xs.length → tot (xs.take i) ≤ 1099511627776 := fun i hi => by have := tot_take_le xs i hx; omega
 refine for_stC 2000000 xs.length (fun k i (s : Int) => impl_SeqOk.l0 k m xs s xs (xs.length : Int) (i : Int)) (fun i => (tot (xs.take i) : Int)) (seqB m xs) ?_ ?_ k 0 (Nat.zero_le _) (by omega)
 ·intro k i hC hi
  have hs := tot_take xs i hi
  have h1 := hb i (by omega)
  have h2 := hb (i + 1) (by omega)
  simp only [impl_SeqOk.l0]
  rw [if_pos (by omega), if_pos (by omega), if_pos (by omega), rdLI xs i hi, wrap_succ (by omega), wrap_small (by omega) (by omega), hs]
  congr 1; try omega
 ·intro k hC
  have ht : tot (xs.take xs.length) = tot xs := by rw [List.take_length]
  simp only [impl_SeqOk.l0]
  rw [if_neg (by omega), memOk_eq m (by omega) k (by omega), Option.bind_some, ht]
  unfold seqB
  cases hw : wordsB m 24 with
  | false => rw [if_neg (by simp)]; rfl
  | true =>
   have hm24 := wordsB_24 hw
   rw [if_pos rfl, Bool.true_and]
   by_cases h8 : xs.length ≤ 8
   ·rw [if_pos (by omega), decide_eq_true h8, Bool.true_and]
    by_cases h12 : tot xs ≤ 12
    ·rw [if_pos (by omega), decide_eq_true h12, Bool.true_and, implSome (tot xs) h12 m xs hm24 h8 rfl k (by omega), Option.bind_some]
    ·rw [if_neg (by omega), decide_eq_false h12, Bool.false_and]
   ·rw [if_neg (by omega), decide_eq_false h8, Bool.false_and]
theorem FnExactSeqOk : laws_FnExactSeqOk.Pure := by
 intro l0 l1 h0 h1
 refine ⟨5000000, ?_⟩
 unfold laws_FnExactSeqOk.f
 by_cases c0 : (l0.length : Int) > 1048576
 ·rw [if_pos c0]
 ·rw [if_neg c0]
  obtain ⟨r, e, hr⟩ := szDidSS_ex l1 h1.1 (fun x hx => (h1.2 x hx).1) 5000000 (by omega)
  rw [e, Option.bind_some]
  by_cases c1 : r < 0
  ·rw [if_pos c1]
  ·rw [if_neg c1]
   obtain ⟨hl, hx⟩ := hr (by omega)
   have hl' : (l1.map (·.map toDidV)).length ≤ 1048576 := by simpa using hl
   have hx' : ∀ x ∈ l1.map (·.map toDidV), x.length ≤ 1048576 := by
    intro x hx2
    obtain ⟨y, hy, rfl⟩ := List.mem_map.1 hx2
    simpa using hx y hy
   have et := toIntS_eq l0 (by omega) 5000000 (by omega)
   have ed := toDidSS_eq l1 hl hx 5000000 (by omega)
   simp only [et, ed, Option.bind_some]
   rw [specSeqOk_eq l0 _ (by omega) hl' hx' 5000000 (by omega), Option.bind_some, implSeqOk_eq l0 _ (by omega) hl' hx' 5000000 (by omega), Option.bind_some, if_neg (by simp), eqIntS_eq l0 l0 (by omega) 5000000 (by omega), Option.bind_some, if_pos (by simp), eqDidSS_same _ (by omega) (fun x hx2 => by have := hx' x hx2; omega) 5000000 (by omega), Option.bind_some, if_pos rfl]
end Go.Proofs.Ythmkclelkijhoaa.Pure
