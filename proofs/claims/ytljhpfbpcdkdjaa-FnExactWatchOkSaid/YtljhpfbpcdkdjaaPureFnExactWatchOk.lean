/- For all watches, the program's WatchOk returns what the reference's WatchOk returns, and keeps its argument: no conditions. -/
import Derived.Test.YtljhpfbpcdkdjaaPFnExactWatchOkx2
namespace Go.Proofs.Ytljhpfbpcdkdjaa.Pure
open Go.RowKit Go.Proofs.Ytljhpfbpcdkdjaa.PFnExactWatchOk Go.Proofs.YtljhpfbpcdkdjaaW.PrintWords Go.Proofs.YtljhpfbpcdkdjaaW.PrintLast
set_option linter.unusedVariables false
set_option linter.unusedSimpArgs false

theorem wrap_small {x : Int} (h0 : -9223372036854775808 ≤ x) (h : x ≤ 9223372036854775807) : wrap64 x = x := by
  unfold wrap64; omega
theorem wrap_succ {i : Nat} (h : i < 4611686018427387904) : wrap64 ((i : Int) + 1) = ((i + 1 : Nat) : Int) := by
  unfold wrap64; omega
theorem rd_nat (l : List Int) (i : Nat) (h : i < l.length) : rd l (i : Int) = l[i] := by
  unfold rd; simp [List.getD, h]
theorem rd_mem (l : List Int) (i : Nat) (h : i < l.length) : rd l (i : Int) ∈ l := by
  rw [rd_nat l i h]; exact List.getElem_mem h
/-- A loop whose state is known ahead of each round. -/
theorem for_st {σ ρ : Type} (n : Nat) (L : Nat → Nat → σ → Option ρ) (st : Nat → σ) (r : ρ) (hs : ∀ k i, i < n → L (k + 1) i (st i) = L k (i + 1) (st (i + 1))) (he : ∀ k, L (k + 1) n (st n) = some r) :
    ∀ (k i : Nat), i ≤ n → n < i + k → L k i (st i) = some r
  | 0, i, hi, hk => by omega
  | k + 1, i, hi, hk => by
    by_cases h : i < n
    · rw [hs k i h]; exact for_st n L st r hs he k (i + 1) (by omega) (by omega)
    · have : i = n := by omega
      subst this; exact he k
/-- A loop that ends at the first place where p holds. -/
theorem for_find {ρ : Type} (n : Nat) (L : Nat → Nat → Option ρ) (p : Nat → Prop) (b : Nat → ρ) (r : ρ) (hs : ∀ k i, i < n → ¬ p i → L (k + 1) i = L k (i + 1)) (hb : ∀ k i, i < n → p i → L (k + 1) i = some (b i)) (he : ∀ k, L (k + 1) n = some r) :
    ∀ (k i : Nat), i ≤ n → n < i + k → (∃ j, i ≤ j ∧ j < n ∧ p j ∧ (∀ m, i ≤ m → m < j → ¬ p m) ∧ L k i = some (b j)) ∨ (∀ j, i ≤ j → j < n → ¬ p j) ∧ L k i = some r
  | 0, i, hi, hk => by omega
  | k + 1, i, hi, hk => by
    by_cases h : i < n
    · by_cases hp : p i
      · exact .inl ⟨i, Nat.le_refl _, h, hp, fun m h1 h2 => by omega, hb k i h hp⟩
      · rw [hs k i h hp]
        rcases for_find n L p b r hs hb he k (i + 1) (by omega) (by omega) with ⟨j, h1, h2, h3, h4, h5⟩ | ⟨h1, h2⟩
        · refine .inl ⟨j, by omega, h2, h3, fun m hm1 hm2 => ?_, h5⟩
          by_cases e : m = i
          · subst e; exact hp
          · exact h4 m (by omega) hm2
        · refine .inr ⟨fun j hj1 hj2 => ?_, h2⟩
          by_cases e : j = i
          · subst e; exact hp
          · exact h1 j (by omega) hj2
    · have : i = n := by omega
      subst this; exact .inr ⟨fun j h1 h2 => by omega, he k⟩
/-- The same for a Bool: do all places pass? -/
theorem for_all {n : Nat} {L : Nat → Nat → Option Bool} (p : Nat → Prop) (hs : ∀ k i, i < n → p i → L (k + 1) i = L k (i + 1)) (hb : ∀ k i, i < n → ¬ p i → L (k + 1) i = some false) (c : Bool) (he : ∀ k, L (k + 1) n = some c) {q : Bool}
    (hq : q = true ↔ (∀ j, j < n → p j) ∧ c = true) (k : Nat) (hk : n < k) : L k 0 = some q := by
  rcases for_find n L (fun i => ¬ p i) (fun _ => false) c (fun k i h hp => hs k i h (Classical.not_not.1 hp)) (fun k i h hp => hb k i h hp) he k 0 (Nat.zero_le _) (by omega) with ⟨j, _, h2, h3, _, h5⟩ | ⟨h1, h2⟩
  · rw [h5]; congr 1; symm
    rw [Bool.eq_false_iff]; intro hh; exact h3 ((hq.1 hh).1 j h2)
  · rw [h2]; congr 1
    have : ∀ j, j < n → p j := fun j hj => Classical.not_not.1 (h1 j (Nat.zero_le _) hj)
    rw [Bool.eq_iff_iff, hq]; exact ⟨fun h => ⟨this, h⟩, fun h => h.2⟩
/-- What is written, place by place. -/
theorem set_step {α : Type} (a b : List α) (i : Nat) (hi : i < a.length) (hb : b.length = a.length) : (a.take i ++ b.drop i).set i (a[i]'hi) = a.take (i + 1) ++ b.drop (i + 1) := by
  rw [List.set_append_right _ _ (by simp; omega), List.length_take, Nat.min_eq_left (by omega), Nat.sub_self, List.take_succ_eq_append_getElem hi, List.append_assoc]
  congr 1
  rw [List.drop_eq_getElem_cons (by omega)]
  rfl
theorem snoc_step {α : Type} (a : List α) (i : Nat) (hi : i < a.length) : a.take i ++ [a[i]'hi] = a.take (i + 1) := by
  rw [List.take_succ_eq_append_getElem hi]
theorem eq_iff_all (a b : List Int) (h : a.length = b.length) : a = b ↔ ∀ j, j < a.length → rd a (j : Int) = rd b (j : Int) := by
  constructor
  · rintro rfl j _; rfl
  · intro hh; refine List.ext_getElem h (fun j h1 h2 => ?_)
    have := hh j h1
    rwa [rd_nat a j h1, rd_nat b j h2] at this
/-- What marks hold: s, s + 1, .. -/
def iota (s : Int) (n : Nat) : List Int := (List.range n).map fun (i : Nat) => s + (i : Int)
theorem iota_length (s : Int) (n : Nat) : (iota s n).length = n := by simp [iota]
theorem iota_get (s : Int) (n i : Nat) (h : i < n) : (iota s n)[i]'(by rw [iota_length]; exact h) = s + i := by simp [iota]
/-- The same as bytes. -/
def iota8 (s : Int) (n : Nat) : List Int := (List.range n).map fun (i : Nat) => (s + (i : Int)) % 256
theorem iota8_length (s : Int) (n : Nat) : (iota8 s n).length = n := by simp [iota8]
theorem iota8_get (s : Int) (n i : Nat) (h : i < n) : (iota8 s n)[i]'(by rw [iota8_length]; exact h) = (s + i) % 256 := by simp [iota8]
theorem wraps_i64 (n : Int) (h0 : 0 ≤ n) (h1 : n < 2 ^ 62) : IntKind.i64.wrap n = n := by rw [IntKind.wrap_i64]; omega
theorem and255 (x : Int) (h0 : 0 ≤ x) (h : x ≤ 65535) : Go.bits .and .i64 x 255 = x % 256 := bits_mask .i64 62 (by decide) wraps_i64 8 (by decide) x h0 (by omega)
/-- Does a search find something. -/
theorem idx_any {n : Nat} (L : Nat → Nat → Option Int) (q : Nat → Bool) (hs : ∀ k i, i < n → q i = false → L (k + 1) i = L k (i + 1)) (hb : ∀ k i, i < n → q i = true → L (k + 1) i = some (i : Int)) (he : ∀ k, L (k + 1) n = some (-1)) (r : Bool)
    (hr : r = true ↔ ∃ j, j < n ∧ q j = true) (k : Nat) (hk : n < k) : ∃ v, L k 0 = some v ∧ decide (v ≥ 0) = r := by
  rcases for_find n L (fun i => q i = true) (fun i => (i : Int)) (-1) (fun k i h hp => hs k i h (by simpa using hp)) hb he k 0 (Nat.zero_le _) (by omega) with ⟨j, _, h2, h3, _, h5⟩ | ⟨h1, h2⟩
  · refine ⟨_, h5, ?_⟩
    rw [decide_eq_true (by omega : (j : Int) ≥ 0)]; exact (hr.2 ⟨j, h2, h3⟩).symm
  · refine ⟨_, h2, ?_⟩
    rw [decide_eq_false (by omega : ¬ (-1 : Int) ≥ 0)]; symm; rw [Bool.eq_false_iff]; intro hh
    obtain ⟨j, hj, hq⟩ := hr.1 hh
    exact h1 j (Nat.zero_le _) hj hq
theorem toIntS_eq (l : List Int) (hl : l.length ≤ 1048576) (k : Nat) (hk : l.length < k) : laws_toIntS.f k l = some l := by
  unfold laws_toIntS.f
  rw [if_pos (by omega), if_pos (by simp; omega)]
  have h := for_st l.length (fun k i s => laws_toIntS.l0 k l s (i : Int)) (fun i => l.take i ++ (List.replicate l.length 0).drop i) l ?_ ?_ k 0 (Nat.zero_le _) (by omega)
  · simpa using h
  · intro k i hi
    simp only [laws_toIntS.l0]
    rw [if_pos (by omega), if_pos (by omega), if_pos (by simp; omega), wrap_succ (by omega), rd_nat l i hi]
    simp only [Int.toNat_natCast]
    rw [set_step _ _ _ hi (by simp)]
  · intro k
    simp only [laws_toIntS.l0]
    rw [if_neg (by omega)]; simp
theorem eqIntS_eq (a b : List Int) (hl : a.length ≤ 1048576) (k : Nat) (hk : a.length < k) : laws_eqIntS.f k a b = some (decide (a = b)) := by
  unfold laws_eqIntS.f
  by_cases h : a.length = b.length
  · rw [if_pos (by omega)]
    refine for_all (L := fun k i => laws_eqIntS.l0 k a b (i : Int)) (n := a.length) (fun j => rd a (j : Int) = rd b (j : Int)) ?_ ?_ true ?_ ?_ k hk
    · intro k i hi hp
      simp only [laws_eqIntS.l0]
      rw [if_pos (by omega), if_pos (by omega), if_pos (by omega), if_pos hp, wrap_succ (by omega)]
    · intro k i hi hp
      simp only [laws_eqIntS.l0]
      rw [if_pos (by omega), if_pos (by omega), if_pos (by omega), if_neg hp]
    · intro k
      simp only [laws_eqIntS.l0]
      rw [if_neg (by omega)]
    · rw [decide_eq_true_iff, eq_iff_all a b h]; simp
  · rw [if_neg (by omega)]
    have : a ≠ b := fun hh => h (by rw [hh])
    simp [this]
theorem l1In_eq (x lo hi : Int) : spec_l1In.f x lo hi = some (decide (lo ≤ x ∧ x ≤ hi)) := by
  unfold spec_l1In.f
  by_cases h : x ≥ lo
  · rw [if_pos h]; have h' : lo ≤ x := h; simp [h']
  · rw [if_neg h]; have h' : ¬ lo ≤ x := h; simp [h']
theorem from_eq (x lo hi : Int) : impl_from.f x lo hi = some (decide (lo ≤ x ∧ x ≤ hi)) := by
  unfold impl_from.f
  by_cases h : x ≥ lo
  · rw [if_pos h]; have h' : lo ≤ x := h; simp [h']
  · rw [if_neg h]; have h' : ¬ lo ≤ x := h; simp [h']
theorem isCell_eq (x : Int) : impl_isCell.f x = some (decide (0 ≤ x ∧ x ≤ 23)) := by
  unfold impl_isCell.f; rw [from_eq]; rfl
def cellsAll (l : List Int) : Bool := l.all (fun x => decide (0 ≤ x ∧ x ≤ 23))
/-- Is it a watch. -/
def watchB (s c : List Int) : Bool := (decide (s.length ≤ 24) && cellsAll s) && (decide (c.length ≤ 24) && cellsAll c)
theorem cellsAll_iff (l : List Int) : cellsAll l = true ↔ ∀ j, j < l.length → 0 ≤ rd l (j : Int) ∧ rd l (j : Int) ≤ 23 := by
  unfold cellsAll; rw [List.all_eq_true]
  constructor
  · intro h j hj; exact of_decide_eq_true (h _ (rd_mem l j hj))
  · intro h x hx
    obtain ⟨j, hj, rfl⟩ := List.getElem_of_mem hx
    have := h j hj; rw [rd_nat l j hj] at this; exact decide_eq_true this
theorem l24Places_eq (l : List Int) (hl : l.length ≤ 2097152) (k : Nat) (hk : l.length < k) : spec_l24Places.f k l = some (decide (l.length ≤ 24) && cellsAll l) := by
  unfold spec_l24Places.f
  refine for_all (L := fun k i => spec_l24Places.l0 k l (i : Int)) (n := l.length) (fun j => 0 ≤ rd l (j : Int) ∧ rd l (j : Int) ≤ 23) ?_ ?_ (decide ((l.length : Int) ≤ 24)) ?_ ?_ k hk
  · intro k i hi hp
    simp only [spec_l24Places.l0]
    rw [if_pos (by omega), if_pos (by omega), l1In_eq, decide_eq_true hp, Option.bind_some, if_pos rfl, wrap_succ (by omega)]
  · intro k i hi hp
    simp only [spec_l24Places.l0]
    rw [if_pos (by omega), if_pos (by omega), l1In_eq, decide_eq_false hp, Option.bind_some, if_neg (by simp)]
  · intro k
    simp only [spec_l24Places.l0]
    rw [if_neg (by omega)]
  · rw [Bool.and_eq_true, cellsAll_iff, decide_eq_true_iff, decide_eq_true_iff]
    constructor
    · rintro ⟨h1, h2⟩; exact ⟨h2, by omega⟩
    · rintro ⟨h1, h2⟩; exact ⟨by omega, h1⟩
theorem specWatchOk_eq (s c : List Int) (hs : s.length ≤ 1048576) (hc : c.length ≤ 1048576) (k : Nat) (hk : 1048600 < k) : spec_WatchOk.f k s c = some (watchB s c) := by
  unfold spec_WatchOk.f watchB
  rw [l24Places_eq s (by omega) k (by omega), l24Places_eq c (by omega) k (by omega), Option.bind_some]
  cases decide (s.length ≤ 24) && cellsAll s <;> rfl
theorem concat2_eq (s c : List Int) (hs : s.length ≤ 1048576) (hc : c.length ≤ 1048576) (k : Nat) (hk : 20 < k) : slices_Concat_int_int.f k [s, c] = some (s ++ c) := by
  obtain ⟨k, rfl⟩ : ∃ m, k = m + 6 := ⟨k - 6, by omega⟩
  unfold slices_Concat_int_int.f
  have r0 : rd_L1 [s, c] 0 = s := rfl
  have r1 : rd_L1 [s, c] 1 = c := rfl
  have w1 : wrap64 (0 + (s.length : Int)) = s.length := by unfold wrap64; omega
  have w2 : wrap64 ((s.length : Int) + (c.length : Int)) = (s.length : Int) + c.length := by unfold wrap64; omega
  have w3 : wrap64 (0 + 1) = 1 := by unfold wrap64; omega
  have w4 : wrap64 (1 + 1) = 2 := by unfold wrap64; omega
  have len : (([s, c] : List (List Int)).length : Int) = 2 := rfl
  rw [len, slices_Concat_int_int.l0, if_pos (by decide), if_pos (by decide), if_pos (by rw [len]; decide), r0, w1, if_neg (by omega), w3, slices_Concat_int_int.l0, if_pos (by decide), if_pos (by decide), if_pos (by rw [len]; decide), r1, w2, if_neg (by omega), w4,
    slices_Concat_int_int.l0, if_neg (by decide), slices_Grow_at_nil.f, if_pos (by omega), Option.bind_some, len, slices_Concat_int_int.l1, if_pos (by decide), if_pos (by decide), if_pos (by rw [len]; decide), r0, if_pos (by show 0 + _ < _; omega), w3, List.nil_append,
    slices_Concat_int_int.l1, if_pos (by decide), if_pos (by decide), if_pos (by rw [len]; decide), r1, if_pos (by omega), w4, slices_Concat_int_int.l1, if_neg (by decide)]
theorem implWatchOk_eq (s c : List Int) (hs : s.length ≤ 1048576) (hc : c.length ≤ 1048576) (k : Nat) (hk : 3000000 < k) : impl_WatchOk.f k s c = some (watchB s c) := by
  unfold impl_WatchOk.f watchB
  by_cases h1 : s.length ≤ 24
  · rw [if_pos (by omega), decide_eq_true h1, Bool.true_and]
    by_cases h2 : c.length ≤ 24
    · rw [if_pos (by omega), decide_eq_true h2, Bool.true_and, concat2_eq s c hs hc k (by omega), Option.bind_some]
      unfold slices_ContainsFunc_at_impl_WatchOk_1.f slices_IndexFunc_at_impl_WatchOk_1.f
      have hl : (s ++ c).length ≤ 100 := by rw [List.length_append]; omega
      have hf : ∀ x, impl_WatchOk_1.f x = some (!decide (0 ≤ x ∧ x ≤ 23)) := fun x => by unfold impl_WatchOk_1.f; rw [isCell_eq]; rfl
      have H := idx_any (n := (s ++ c).length) (fun k i => slices_IndexFunc_at_impl_WatchOk_1.l0 k (s ++ c) ((s ++ c).length : Int) (i : Int)) (fun i => !decide (0 ≤ rd (s ++ c) (i : Int) ∧ rd (s ++ c) (i : Int) ≤ 23)) ?_ ?_ ?_ (!(cellsAll (s ++ c))) ?_ k (by omega)
      · obtain ⟨v, e, hv⟩ := H
        have e' : slices_IndexFunc_at_impl_WatchOk_1.l0 k (s ++ c) ((s ++ c).length : Int) 0 = some v := e
        rw [e', Option.bind_some, hv, Option.bind_some, Bool.not_not]
        unfold cellsAll; rw [List.all_append]
      · intro k i hi hq
        simp only [slices_IndexFunc_at_impl_WatchOk_1.l0]
        rw [if_pos (by omega), if_pos (by omega), if_pos (by omega), hf, hq, Option.bind_some, if_neg (by simp), wrap_succ (by omega)]
      · intro k i hi hq
        simp only [slices_IndexFunc_at_impl_WatchOk_1.l0]
        rw [if_pos (by omega), if_pos (by omega), if_pos (by omega), hf, hq, Option.bind_some, if_pos rfl]
      · intro k
        simp only [slices_IndexFunc_at_impl_WatchOk_1.l0]
        rw [if_neg (by omega)]
      · constructor
        · intro h
          refine Classical.byContradiction fun hn => ?_
          have : cellsAll (s ++ c) = true := (cellsAll_iff _).2 fun j hj => Classical.byContradiction fun hh => hn ⟨j, hj, by rw [decide_eq_false hh]; rfl⟩
          rw [this] at h; exact absurd h (by simp)
        · rintro ⟨j, hj, hq⟩
          cases hc' : cellsAll (s ++ c)
          · rfl
          · have := (cellsAll_iff _).1 hc' j hj
            rw [decide_eq_true this] at hq; exact absurd hq (by simp)
    · rw [if_neg (by omega), decide_eq_false h2, Bool.false_and, Bool.and_false]
  · rw [if_neg (by omega), decide_eq_false h1, Bool.false_and, Bool.false_and]
theorem szIntS_eq (l : List Int) (a : Int) (h0 : 0 ≤ a) (h1 : a ≤ 1048576) (hl : l.length ≤ maxLen) : laws_szIntS.f l a = some (if a - (l.length : Int) < 0 then -1 else a - (l.length : Int)) := by
  unfold maxLen at hl
  unfold laws_szIntS.f
  rw [wrap_small (by omega) (by omega)]
  by_cases h : a - (l.length : Int) < 0
  · rw [if_pos h, if_pos h]
  · rw [if_neg h, if_neg h]
theorem szIntS_ex (l : List Int) (a : Int) (h0 : 0 ≤ a) (h1 : a ≤ 1048576) (hl : l.length ≤ maxLen) : ∃ r, laws_szIntS.f l a = some r ∧ -1 ≤ r ∧ (0 ≤ r → r ≤ a ∧ l.length ≤ 1048576) := by
  refine ⟨_, szIntS_eq l a h0 h1 hl, ?_, ?_⟩
  · by_cases h : a - (l.length : Int) < 0
    · rw [if_pos h]; omega
    · rw [if_neg h]; omega
  · by_cases h : a - (l.length : Int) < 0
    · rw [if_pos h]; omega
    · rw [if_neg h]; omega
theorem szWatch_ex (s c : List Int) (a : Int) (h0 : 0 ≤ a) (h1 : a ≤ 1048576) (hs : s.length ≤ maxLen) (hc : c.length ≤ maxLen) : ∃ r, laws_szWatch.f s c a = some r ∧ (0 ≤ r → s.length ≤ 1048576 ∧ c.length ≤ 1048576) := by
  unfold laws_szWatch.f
  obtain ⟨r, h, h2, h3⟩ := szIntS_ex s a h0 h1 hs
  rw [h, Option.bind_some]
  by_cases hr : r < 0
  · exact ⟨-1, by rw [if_pos hr], by omega⟩
  · obtain ⟨r', h', h2', h3'⟩ := szIntS_ex c r (by omega) (by have := h3 (by omega); omega) hc
    rw [if_neg hr, h', Option.bind_some]
    by_cases hr' : r' < 0
    · exact ⟨-1, by rw [if_pos hr'], by omega⟩
    · exact ⟨r', by rw [if_neg hr'], fun _ => ⟨(h3 (by omega)).2, (h3' (by omega)).2⟩⟩
theorem FnExactWatchOk : laws_FnExactWatchOk.Pure := by
  rintro s c ⟨⟨hs, ws⟩, hc, wc⟩
  obtain ⟨k, hk⟩ : ∃ k : Nat, 4000000 < k := ⟨4000001, by omega⟩
  refine ⟨k, ?_⟩
  unfold laws_FnExactWatchOk.f
  obtain ⟨r, e, hr⟩ := szWatch_ex s c 1048576 (by omega) (by omega) hs hc
  rw [e, Option.bind_some]
  by_cases h : r < 0
  · rw [if_pos h]
  obtain ⟨ls, lc⟩ := hr (by omega)
  have e1 : laws_toWatch.f k s c = some (s, c) := by unfold laws_toWatch.f; rw [toIntS_eq s ls k (by omega), Option.bind_some, toIntS_eq c lc k (by omega)]; rfl
  have e2 := implWatchOk_eq s c ls lc k (by omega)
  have e3 := specWatchOk_eq s c ls lc k (by omega)
  have e4 : laws_eqWatch.f k s c s c = some true := by unfold laws_eqWatch.f; rw [eqIntS_eq s s ls k (by omega), decide_eq_true rfl, Option.bind_some, if_pos rfl, eqIntS_eq c c lc k (by omega), decide_eq_true rfl]; rfl
  simp only [if_neg h, e1, e2, e3, e4, Option.bind_some, if_true, bne_self_eq_false, Bool.false_eq_true, if_false]
end Go.Proofs.Ytljhpfbpcdkdjaa.Pure
