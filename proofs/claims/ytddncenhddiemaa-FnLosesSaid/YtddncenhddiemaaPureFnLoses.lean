/- For all bytes: harts that count without swapping may lose, but never count more than all, and never nothing; alone a hart counts right: no conditions. -/
import Derived.Test.YtddncenhddiemaaPFnLosesx8
namespace Go.Proofs.Ytddncenhddiemaa.Pure
open Go.RowKit Go.Proofs.Ytddncenhddiemaa.PFnLoses Go.Proofs.YtddncenhddiemaaW.PrintWords Go.Proofs.YtddncenhddiemaaW.PrintLast
set_option linter.unusedVariables false
set_option linter.unusedSimpArgs false

theorem wrap_small {x : Int} (h0 : -9223372036854775808 ≤ x) (h : x ≤ 9223372036854775807) : wrap64 x = x := by
  unfold wrap64; omega
theorem wrap_succ {i : Nat} (h : i < 4611686018427387904) : wrap64 ((i : Int) + 1) = ((i + 1 : Nat) : Int) := by
  unfold wrap64; omega
theorem rd_nat (l : List Int) (i : Nat) (h : i < l.length) : rd l (i : Int) = l[i] := by
  unfold rd; simp [List.getD, h]
theorem rd_mem (l : List Int) (i : Nat) (h : i < l.length) : rd l (i : Int) ∈ l := by
  rw [rd_nat l i h]; exact List.getElem_mem h
/-- A loop whose state is known ahead of each round. -/
theorem for_st {σ ρ : Type} (n : Nat) (L : Nat → Nat → σ → Option ρ) (st : Nat → σ) (r : ρ) (hs : ∀ k i, i < n → L (k + 1) i (st i) = L k (i + 1) (st (i + 1))) (he : ∀ k, L (k + 1) n (st n) = some r) :
    ∀ (k i : Nat), i ≤ n → n < i + k → L k i (st i) = some r
  | 0, i, hi, hk => by omega
  | k + 1, i, hi, hk => by
    by_cases h : i < n
    · rw [hs k i h]; exact for_st n L st r hs he k (i + 1) (by omega) (by omega)
    · have : i = n := by omega
      subst this; exact he k
/-- A loop that ends at the first place where p holds. -/
theorem for_find {ρ : Type} (n : Nat) (L : Nat → Nat → Option ρ) (p : Nat → Prop) (b : Nat → ρ) (r : ρ) (hs : ∀ k i, i < n → ¬ p i → L (k + 1) i = L k (i + 1)) (hb : ∀ k i, i < n → p i → L (k + 1) i = some (b i)) (he : ∀ k, L (k + 1) n = some r) :
    ∀ (k i : Nat), i ≤ n → n < i + k → (∃ j, i ≤ j ∧ j < n ∧ p j ∧ (∀ m, i ≤ m → m < j → ¬ p m) ∧ L k i = some (b j)) ∨ (∀ j, i ≤ j → j < n → ¬ p j) ∧ L k i = some r
  | 0, i, hi, hk => by omega
  | k + 1, i, hi, hk => by
    by_cases h : i < n
    · by_cases hp : p i
      · exact .inl ⟨i, Nat.le_refl _, h, hp, fun m h1 h2 => by omega, hb k i h hp⟩
      · rw [hs k i h hp]
        rcases for_find n L p b r hs hb he k (i + 1) (by omega) (by omega) with ⟨j, h1, h2, h3, h4, h5⟩ | ⟨h1, h2⟩
        · refine .inl ⟨j, by omega, h2, h3, fun m hm1 hm2 => ?_, h5⟩
          by_cases e : m = i
          · subst e; exact hp
          · exact h4 m (by omega) hm2
        · refine .inr ⟨fun j hj1 hj2 => ?_, h2⟩
          by_cases e : j = i
          · subst e; exact hp
          · exact h1 j (by omega) hj2
    · have : i = n := by omega
      subst this; exact .inr ⟨fun j h1 h2 => by omega, he k⟩
/-- The same for a Bool: do all places pass? -/
theorem for_all {n : Nat} {L : Nat → Nat → Option Bool} (p : Nat → Prop) (hs : ∀ k i, i < n → p i → L (k + 1) i = L k (i + 1)) (hb : ∀ k i, i < n → ¬ p i → L (k + 1) i = some false) (c : Bool) (he : ∀ k, L (k + 1) n = some c) {q : Bool}
    (hq : q = true ↔ (∀ j, j < n → p j) ∧ c = true) (k : Nat) (hk : n < k) : L k 0 = some q := by
  rcases for_find n L (fun i => ¬ p i) (fun _ => false) c (fun k i h hp => hs k i h (Classical.not_not.1 hp)) (fun k i h hp => hb k i h hp) he k 0 (Nat.zero_le _) (by omega) with ⟨j, _, h2, h3, _, h5⟩ | ⟨h1, h2⟩
  · rw [h5]; congr 1; symm
    rw [Bool.eq_false_iff]; intro hh; exact h3 ((hq.1 hh).1 j h2)
  · rw [h2]; congr 1
    have : ∀ j, j < n → p j := fun j hj => Classical.not_not.1 (h1 j (Nat.zero_le _) hj)
    rw [Bool.eq_iff_iff, hq]; exact ⟨fun h => ⟨this, h⟩, fun h => h.2⟩
/-- What is written, place by place. -/
theorem set_step {α : Type} (a b : List α) (i : Nat) (hi : i < a.length) (hb : b.length = a.length) : (a.take i ++ b.drop i).set i (a[i]'hi) = a.take (i + 1) ++ b.drop (i + 1) := by
  rw [List.set_append_right _ _ (by simp; omega), List.length_take, Nat.min_eq_left (by omega), Nat.sub_self, List.take_succ_eq_append_getElem hi, List.append_assoc]
  congr 1
  rw [List.drop_eq_getElem_cons (by omega)]
  rfl
theorem snoc_step {α : Type} (a : List α) (i : Nat) (hi : i < a.length) : a.take i ++ [a[i]'hi] = a.take (i + 1) := by
  rw [List.take_succ_eq_append_getElem hi]
theorem eq_iff_all (a b : List Int) (h : a.length = b.length) : a = b ↔ ∀ j, j < a.length → rd a (j : Int) = rd b (j : Int) := by
  constructor
  · rintro rfl j _; rfl
  · intro hh; refine List.ext_getElem h (fun j h1 h2 => ?_)
    have := hh j h1
    rwa [rd_nat a j h1, rd_nat b j h2] at this
/-- What marks hold: s, s + 1, .. -/
def iota (s : Int) (n : Nat) : List Int := (List.range n).map fun (i : Nat) => s + (i : Int)
theorem iota_length (s : Int) (n : Nat) : (iota s n).length = n := by simp [iota]
theorem iota_get (s : Int) (n i : Nat) (h : i < n) : (iota s n)[i]'(by rw [iota_length]; exact h) = s + i := by simp [iota]
/-- The same as bytes. -/
def iota8 (s : Int) (n : Nat) : List Int := (List.range n).map fun (i : Nat) => (s + (i : Int)) % 256
theorem iota8_length (s : Int) (n : Nat) : (iota8 s n).length = n := by simp [iota8]
theorem iota8_get (s : Int) (n i : Nat) (h : i < n) : (iota8 s n)[i]'(by rw [iota8_length]; exact h) = (s + i) % 256 := by simp [iota8]
theorem wraps_i64 (n : Int) (h0 : 0 ≤ n) (h1 : n < 2 ^ 62) : IntKind.i64.wrap n = n := by rw [IntKind.wrap_i64]; omega
theorem and255 (x : Int) (h0 : 0 ≤ x) (h : x ≤ 65535) : Go.bits .and .i64 x 255 = x % 256 := bits_mask .i64 62 (by decide) wraps_i64 8 (by decide) x h0 (by omega)
/-- Does a search find something. -/
theorem idx_any {n : Nat} (L : Nat → Nat → Option Int) (q : Nat → Bool) (hs : ∀ k i, i < n → q i = false → L (k + 1) i = L k (i + 1)) (hb : ∀ k i, i < n → q i = true → L (k + 1) i = some (i : Int)) (he : ∀ k, L (k + 1) n = some (-1)) (r : Bool)
    (hr : r = true ↔ ∃ j, j < n ∧ q j = true) (k : Nat) (hk : n < k) : ∃ v, L k 0 = some v ∧ decide (v ≥ 0) = r := by
  rcases for_find n L (fun i => q i = true) (fun i => (i : Int)) (-1) (fun k i h hp => hs k i h (by simpa using hp)) hb he k 0 (Nat.zero_le _) (by omega) with ⟨j, _, h2, h3, _, h5⟩ | ⟨h1, h2⟩
  · refine ⟨_, h5, ?_⟩
    rw [decide_eq_true (by omega : (j : Int) ≥ 0)]; exact (hr.2 ⟨j, h2, h3⟩).symm
  · refine ⟨_, h2, ?_⟩
    rw [decide_eq_false (by omega : ¬ (-1 : Int) ≥ 0)]; symm; rw [Bool.eq_false_iff]; intro hh
    obtain ⟨j, hj, hq⟩ := hr.1 hh
    exact h1 j (Nat.zero_le _) hj hq
/-- A count that goes down, item by item, and stops below nothing. -/
theorem sz_loop {n C : Nat} {M : Int} (L : Nat → Nat → Int → Option Int) (P : Nat → Prop) (hs : ∀ k i a, i < n → C ≤ k → 0 ≤ a → a ≤ M → (∃ r, r < 0 ∧ L (k + 1) i a = some r) ∨ ∃ t, 0 ≤ t ∧ t ≤ a ∧ P i ∧ L (k + 1) i a = L k (i + 1) t)
    (he : ∀ k a, L (k + 1) n a = some a) : ∀ (m i : Nat) (a : Int), i ≤ n → n < i + m → 0 ≤ a → a ≤ M → ∃ r, L (m + C) i a = some r ∧ r ≤ a ∧ (0 ≤ r → ∀ j, i ≤ j → j < n → P j)
  | 0, i, a, hi, hm, _, _ => by omega
  | m + 1, i, a, hi, hm, h0, h1 => by
    rw [show m + 1 + C = (m + C) + 1 by omega]
    by_cases h : i < n
    · rcases hs (m + C) i a h (by omega) h0 h1 with ⟨r, hr, e⟩ | ⟨t, ht0, ht, hp, e⟩
      · exact ⟨r, e, by omega, fun h => by omega⟩
      · obtain ⟨r, e2, hr, hq⟩ := sz_loop L P hs he m (i + 1) t (by omega) (by omega) ht0 (by omega)
        refine ⟨r, by rw [e, e2], by omega, fun h0 j hj1 hj2 => ?_⟩
        by_cases c : j = i
        · subst c; exact hp
        · exact hq h0 j (by omega) hj2
    · have : i = n := by omega
      subst this
      exact ⟨a, he _ _, Int.le_refl _, fun _ j h1 h2 => by omega⟩
/-- A list made place by place. -/
theorem to_loop {α : Type} {C : Nat} (v z : List α) (hz : z.length = v.length) (L : Nat → Nat → List α → Option (List α)) (hs : ∀ k i s (hi : i < v.length), C ≤ k → s.length = v.length → L (k + 1) i s = L k (i + 1) (s.set i (v[i]'hi)))
    (he : ∀ k s, L (k + 1) v.length s = some s) (k : Nat) (hk : v.length + C < k) : L k 0 z = some v := by
  have h := for_st v.length (fun k' i (s : List α) => L (k' + C) i s) (fun i => v.take i ++ z.drop i) v ?_ ?_ (k - C) 0 (Nat.zero_le _) (by omega)
  · rw [show k - C + C = k by omega] at h; simpa using h
  · intro k' i hi
    rw [show k' + 1 + C = (k' + C) + 1 by omega, hs _ _ _ hi (by omega) (by simp; omega), set_step _ _ _ hi hz]
  · intro k'
    rw [show k' + 1 + C = (k' + C) + 1 by omega, he, List.take_of_length_le (Nat.le_refl _), List.drop_of_length_le (by omega), List.append_nil]
/-- Equal, place by place. -/
theorem same_loop {n C : Nat} (L : Nat → Nat → Option Bool) (hs : ∀ k i, i < n → C ≤ k → L (k + 1) i = L k (i + 1)) (he : ∀ k, L (k + 1) n = some true) (k : Nat) (hk : n + C < k) : L k 0 = some true := by
  have h := for_st n (fun k' i (_ : Unit) => L (k' + C) i) (fun _ => ()) true ?_ ?_ (k - C) 0 (Nat.zero_le _) (by omega)
  · rw [show k - C + C = k by omega] at h; exact h
  · intro k' i hi; rw [show k' + 1 + C = (k' + C) + 1 by omega, hs _ _ hi (by omega)]
  · intro k'; rw [show k' + 1 + C = (k' + C) + 1 by omega, he]
def wordsB (l : List Int) (n : Int) : Bool := decide ((l.length : Int) = n) && l.all (fun x => decide (0 ≤ x ∧ x ≤ 65535))
theorem wordsB_mem {l : List Int} {n : Int} (h : wordsB l n = true) (x : Int) (hx : x ∈ l) : 0 ≤ x ∧ x ≤ 65535 := by
  unfold wordsB at h; rw [Bool.and_eq_true, List.all_eq_true] at h; exact of_decide_eq_true (h.2 x hx)
/-- Is it a hart: four words, a cell, a state. -/
def hartB (regs : List Int) (pc st : Int) : Bool := wordsB regs 4 && (decide (0 ≤ pc ∧ pc ≤ 23) && decide (0 ≤ st ∧ st ≤ 2))
theorem ite_some' (b c : Bool) : (if b = true then some c else some false) = some (b && c) := by cases b <;> rfl
theorem hartB_len {r : List Int} {p s : Int} (h : hartB r p s = true) : r.length = 4 := by
  unfold hartB wordsB at h; rw [Bool.and_eq_true, Bool.and_eq_true] at h; have := of_decide_eq_true h.1.1; omega
theorem wordsB_24 {l : List Int} (h : wordsB l 24 = true) : l.length = 24 := by unfold wordsB at h; rw [Bool.and_eq_true] at h; have := of_decide_eq_true h.1; omega
theorem tmod_pos (n c : Int) (h : 0 ≤ n) : Int.tmod n c = n % c := Int.tmod_eq_emod_of_nonneg h
theorem tmod_neg (n c : Int) (h : n < 0) : Int.tmod n c = -((-n) % c) := by
  rw [← Int.tmod_eq_emod_of_nonneg (by omega : 0 ≤ -n), Int.neg_tmod, Int.neg_neg]
theorem tdiv_pos (n c : Int) (h : 0 ≤ n) : Int.tdiv n c = n / c := Int.tdiv_eq_ediv_of_nonneg h
/-- A remainder brought up from below nothing. -/
theorem tmod_up (n c : Int) (hc : 0 < c) (hb : c ≤ 4294967296) : Int.tmod (Int.tmod n c + c) c = n % c := by
  have h1 := Int.emod_nonneg n (by omega : c ≠ 0)
  have h2 := Int.emod_lt_of_pos n hc
  rcases Int.lt_or_le n 0 with h | h
  · rw [tmod_neg n c h]
    have h3 := Int.emod_nonneg (-n) (by omega : c ≠ 0)
    have h4 := Int.emod_lt_of_pos (-n) hc
    rw [tmod_pos _ _ (by omega), Int.add_emod_right, ← Int.sub_emod_right]
    have := Int.emod_add_mul_ediv (-n) c
    have e : -(-n % c) - c = n + c * ((-n) / c - 1) := by
      have : n = -(-n % c) - c * ((-n) / c) := by omega
      rw [Int.mul_sub]; omega
    rw [e, Int.add_mul_emod_self_left]
  · rw [tmod_pos n c h, tmod_pos _ _ (by omega), Int.add_emod_right, Int.emod_emod_of_dvd _ (Int.dvd_refl c)]
theorem tmod_bd (n c : Int) (hc : 0 < c) : -c < Int.tmod n c ∧ Int.tmod n c < c := by
  rcases Int.lt_or_le n 0 with h | h
  · rw [tmod_neg n c h]
    have h3 := Int.emod_nonneg (-n) (by omega : c ≠ 0)
    have h4 := Int.emod_lt_of_pos (-n) hc
    omega
  · rw [tmod_pos n c h]
    have h3 := Int.emod_nonneg n (by omega : c ≠ 0)
    have h4 := Int.emod_lt_of_pos n hc
    omega
/-- for_st, where some rounds stay over. -/
theorem for_stC {σ ρ : Type} (C n : Nat) (L : Nat → Nat → σ → Option ρ) (st : Nat → σ) (r : ρ) (hs : ∀ k i, C ≤ k → i < n → L (k + 1) i (st i) = L k (i + 1) (st (i + 1))) (he : ∀ k, C ≤ k → L (k + 1) n (st n) = some r) :
    ∀ (k i : Nat), i ≤ n → n + C < i + k → L k i (st i) = some r
  | 0, i, hi, hk => by omega
  | k + 1, i, hi, hk => by
    by_cases h : i < n
    · rw [hs k i (by omega) h]; exact for_stC C n L st r hs he k (i + 1) (by omega) (by omega)
    · have : i = n := by omega
      subst this; exact he k (by omega)
theorem l1In_eq (x lo hi : Int) : spec_l1In.f x lo hi = some (decide (lo ≤ x ∧ x ≤ hi)) := by
  unfold spec_l1In.f
  by_cases h : x ≥ lo
  · rw [if_pos h]; have h' : lo ≤ x := h; simp [h']
  · rw [if_neg h]; have h' : ¬ lo ≤ x := h; simp [h']
theorem from_eq (x lo hi : Int) : impl_from.f x lo hi = some (decide (lo ≤ x ∧ x ≤ hi)) := by
  unfold impl_from.f
  by_cases h : x ≥ lo
  · rw [if_pos h]; have h' : lo ≤ x := h; simp [h']
  · rw [if_neg h]; have h' : ¬ lo ≤ x := h; simp [h']
theorem isWord_eq (x : Int) : impl_isWord.f x = some (decide (0 ≤ x ∧ x ≤ 65535)) := by
  unfold impl_isWord.f; rw [from_eq]; rfl
theorem isCell_eq (x : Int) : impl_isCell.f x = some (decide (0 ≤ x ∧ x ≤ 23)) := by
  unfold impl_isCell.f; rw [from_eq]; rfl
theorem wordsOk_eq (l : List Int) (n : Int) (hl : l.length ≤ 2097152) (k : Nat) (hk : l.length < k) : impl_wordsOk.f k l n = some (wordsB l n) := by
  unfold impl_wordsOk.f
  by_cases h : (l.length : Int) = n
  · rw [if_pos h]
    unfold slices_ContainsFunc_at_impl_wordsOk_1.f slices_IndexFunc_at_impl_wordsOk_1.f
    have hf : ∀ x, impl_wordsOk_1.f x = some (!decide (0 ≤ x ∧ x ≤ 65535)) := fun x => by unfold impl_wordsOk_1.f; rw [isWord_eq]; rfl
    have hs : ∀ k i, i < l.length → ¬ ¬ (0 ≤ rd l (i : Int) ∧ rd l (i : Int) ≤ 65535) → slices_IndexFunc_at_impl_wordsOk_1.l0 (k + 1) l (l.length : Int) (i : Int) = slices_IndexFunc_at_impl_wordsOk_1.l0 k l (l.length : Int) ((i + 1 : Nat) : Int) := by
      intro k i hi hp
      simp only [slices_IndexFunc_at_impl_wordsOk_1.l0]
      rw [if_pos (by omega), if_pos (by omega), if_pos (by omega), hf, decide_eq_true (Classical.not_not.1 hp), Option.bind_some, if_neg (by simp), wrap_succ (by omega)]
    have hb : ∀ k i, i < l.length → ¬ (0 ≤ rd l (i : Int) ∧ rd l (i : Int) ≤ 65535) → slices_IndexFunc_at_impl_wordsOk_1.l0 (k + 1) l (l.length : Int) (i : Int) = some (i : Int) := by
      intro k i hi hp
      simp only [slices_IndexFunc_at_impl_wordsOk_1.l0]
      rw [if_pos (by omega), if_pos (by omega), if_pos (by omega), hf, decide_eq_false hp, Option.bind_some, if_pos (by simp)]
    have he : ∀ k, slices_IndexFunc_at_impl_wordsOk_1.l0 (k + 1) l (l.length : Int) (l.length : Int) = some (-1) := by
      intro k
      simp only [slices_IndexFunc_at_impl_wordsOk_1.l0]
      rw [if_neg (by omega)]
    rcases for_find l.length (fun k i => slices_IndexFunc_at_impl_wordsOk_1.l0 k l (l.length : Int) (i : Int)) (fun j => ¬ (0 ≤ rd l (j : Int) ∧ rd l (j : Int) ≤ 65535)) (fun j => (j : Int)) (-1) hs hb he k 0 (Nat.zero_le _) (by omega) with ⟨j, _, h2, h3, _, h5⟩ | ⟨h1, h2⟩
    · have h5' : slices_IndexFunc_at_impl_wordsOk_1.l0 k l (l.length : Int) 0 = some (j : Int) := h5
      rw [h5']
      simp only [Option.bind_some]; congr 1; symm
      rw [decide_eq_true (by omega : (j : Int) ≥ 0), Bool.not_true, wordsB, Bool.and_eq_false_iff]; right
      rw [Bool.eq_false_iff]; intro hh
      exact h3 (of_decide_eq_true (List.all_eq_true.1 hh _ (rd_mem l j h2)))
    · have h2' : slices_IndexFunc_at_impl_wordsOk_1.l0 k l (l.length : Int) 0 = some (-1) := h2
      rw [h2']
      simp only [Option.bind_some]; congr 1; symm
      rw [decide_eq_false (by omega : ¬ (-1 : Int) ≥ 0), Bool.not_false, wordsB, decide_eq_true h, Bool.true_and, List.all_eq_true]
      intro x hx
      obtain ⟨j, hj, rfl⟩ := List.getElem_of_mem hx
      have := Classical.not_not.1 (h1 j (Nat.zero_le _) hj); rw [rd_nat l j hj] at this; exact decide_eq_true this
  · rw [if_neg h, wordsB, decide_eq_false h, Bool.false_and]
theorem memOk_eq (l : List Int) (hl : l.length ≤ 2097152) (k : Nat) (hk : l.length < k) : impl_memOk.f k l = some (wordsB l 24) := by
  unfold impl_memOk.f; rw [wordsOk_eq l 24 hl k hk]; rfl
theorem insOkB_bounds {o r a b n : Int} (h : insOkB o r a b n = true) : 1 ≤ o ∧ o ≤ 10 ∧ 0 ≤ r ∧ r ≤ 3 ∧ 0 ≤ a ∧ a ≤ 3 ∧ 0 ≤ b ∧ b ≤ 3 ∧ 0 ≤ n ∧ n ≤ 63 := by
  unfold insOkB at h
  simp only [Bool.and_eq_true, decide_eq_true_eq] at h
  obtain ⟨h0, ⟨h1, h1'⟩, ⟨h2, h2'⟩, ⟨h3, h3'⟩, ⟨h4, h4'⟩⟩ := h
  refine ⟨?_, ?_, h1, h1', h2, h2', h3, h3', h4, h4'⟩
  · by_cases c : 1 ≤ o
    · exact c
    · exfalso
      rw [if_neg (by omega), if_neg (by omega), if_neg (by omega), if_neg (by omega), if_neg (by omega), if_neg (by omega), if_neg (by omega), if_neg (by omega), if_neg (by omega), if_neg (by omega)] at h0
      cases h0
  · by_cases c : o ≤ 10
    · exact c
    · exfalso
      rw [if_neg (by omega), if_neg (by omega), if_neg (by omega), if_neg (by omega), if_neg (by omega), if_neg (by omega), if_neg (by omega), if_neg (by omega), if_neg (by omega), if_neg (by omega)] at h0
      cases h0
theorem ite_some (b c : Bool) : (if b = true then some c else some false) = some (b && c) := by cases b <;> rfl
theorem l8Field_eq (x m : Int) (h : Bool) : spec_l8Field.f x m h = some (decide (0 ≤ x ∧ x ≤ m) && (h || decide (x = 0))) := by
  unfold spec_l8Field.f
  rw [l1In_eq, Option.bind_some]
  have e : (x == 0) = decide (x = 0) := rfl
  rw [e]
  cases h <;> simp only [if_true, Bool.false_eq_true, if_false, Bool.true_or, Bool.false_or, ite_some]
theorem specInsOk_eq (o r a b n : Int) : spec_InsOk.f o r a b n = some (insOkB o r a b n) := by
  unfold spec_InsOk.f spec_l8Has.f
  simp only [l1In_eq, l8Field_eq, Option.bind_some, ite_some]
  by_cases ho : 1 ≤ o ∧ o ≤ 10
  · have hc : o = 1 ∨ o = 2 ∨ o = 3 ∨ o = 4 ∨ o = 5 ∨ o = 6 ∨ o = 7 ∨ o = 8 ∨ o = 9 ∨ o = 10 := by omega
    rw [decide_eq_true ho]
    rcases hc with rfl | rfl | rfl | rfl | rfl | rfl | rfl | rfl | rfl | rfl <;>
      (simp only [if_true, Option.bind_some, List.length_cons, List.length_nil]
       rw [if_pos (by omega), if_pos (by omega)]
       simp only [rd, Option.bind_some, Bool.true_and]
       congr 1
       rw [Bool.eq_iff_iff]
       simp [insOkB, show Go.bits .and .i64 0 1 = 0 by decide, show Go.bits .and .i64 0 2 = 0 by decide, show Go.bits .and .i64 0 4 = 0 by decide, show Go.bits .and .i64 0 8 = 0 by decide,
        show Go.bits .and .i64 7 1 = 1 by decide, show Go.bits .and .i64 7 2 = 2 by decide, show Go.bits .and .i64 7 4 = 4 by decide, show Go.bits .and .i64 7 8 = 0 by decide,
        show Go.bits .and .i64 8 1 = 0 by decide, show Go.bits .and .i64 8 2 = 0 by decide, show Go.bits .and .i64 8 4 = 0 by decide, show Go.bits .and .i64 8 8 = 8 by decide,
        show Go.bits .and .i64 9 1 = 1 by decide, show Go.bits .and .i64 9 2 = 0 by decide, show Go.bits .and .i64 9 4 = 0 by decide, show Go.bits .and .i64 9 8 = 8 by decide,
        show Go.bits .and .i64 10 1 = 0 by decide, show Go.bits .and .i64 10 2 = 2 by decide, show Go.bits .and .i64 10 4 = 0 by decide, show Go.bits .and .i64 10 8 = 8 by decide,
        show Go.bits .and .i64 11 1 = 1 by decide, show Go.bits .and .i64 11 2 = 2 by decide, show Go.bits .and .i64 11 4 = 0 by decide, show Go.bits .and .i64 11 8 = 8 by decide,
        show Go.bits .and .i64 14 1 = 0 by decide, show Go.bits .and .i64 14 2 = 2 by decide, show Go.bits .and .i64 14 4 = 4 by decide, show Go.bits .and .i64 14 8 = 8 by decide,
        show Go.bits .and .i64 15 1 = 1 by decide, show Go.bits .and .i64 15 2 = 2 by decide, show Go.bits .and .i64 15 4 = 4 by decide, show Go.bits .and .i64 15 8 = 8 by decide]
       try omega)
  · have hn : ∀ c, 1 ≤ c → c ≤ 10 → o ≠ c := fun c h1 h2 e => ho (by omega)
    simp [ho, insOkB, hn]
/-- The word of an Ins. -/
def codeW (o r a b n : Int) : Int := if insOkB o r a b n = true then o + 16 * r + 64 * a + 256 * b + 1024 * n else 0
theorem implCode_eq (o r a b n : Int) : impl_Code.f o r a b n = some (codeW o r a b n, insOkB o r a b n) := by
  unfold impl_Code.f impl_InsOk.f codeW
  rw [Option.bind_some]
  by_cases h : insOkB o r a b n = true
  · have hb := insOkB_bounds h
    rw [if_pos h, if_pos h, h]
    congr 2
    simp only [wrap_small (x := 16 * r) (by omega) (by omega), wrap_small (x := 64 * a) (by omega) (by omega), wrap_small (x := 256 * b) (by omega) (by omega), wrap_small (x := 1024 * n) (by omega) (by omega), wrap_small (x := o + 16 * r) (by omega) (by omega), wrap_small (x := o + 16 * r + 64 * a) (by omega) (by omega), wrap_small (x := o + 16 * r + 64 * a + 256 * b) (by omega) (by omega), wrap_small (x := o + 16 * r + 64 * a + 256 * b + 1024 * n) (by omega) (by omega)]
  · have h' : insOkB o r a b n = false := by simpa using h
    rw [if_neg h, if_neg h, h']
theorem specCode_eq (o r a b n : Int) : spec_Code.f o r a b n = some (codeW o r a b n, insOkB o r a b n) := by
  rw [← implCode_eq]; unfold spec_Code.f impl_Code.f
  rw [specInsOk_eq]; rfl
theorem rdIns (l : List S54) (i : Nat) (h : i < l.length) : rd_T54 l (i : Int) = l[i] := by
  unfold rd_T54; simp [List.getD, h]
def insW (x : S54) : Int := codeW x.f0 x.f1 x.f2 x.f3 x.f4
theorem l25Codes_eq (l : List S54) (hl : l.length ≤ 2097152) (k : Nat) (hk : l.length < k) : spec_l25Codes.f k l = some (l.map insW) := by
  unfold spec_l25Codes.f
  have h := for_st l.length (fun k i (s : List Int) => spec_l25Codes.l0 k l s (i : Int)) (fun i => (l.take i).map insW) (l.map insW) ?_ ?_ k 0 (Nat.zero_le _) (by omega)
  · simpa using h
  · intro k i hi
    simp only [spec_l25Codes.l0]
    rw [if_pos (by omega), if_pos (by omega), specCode_eq, Option.bind_some, if_pos (by simp; omega), wrap_succ (by omega), rdIns l i hi]
    rw [← snoc_step l i hi, List.map_append]; rfl
  · intro k
    simp only [spec_l25Codes.l0]
    rw [if_neg (by omega)]; simp
theorem coded_l (l : List S54) (hl : l.length ≤ 2097152) (k : Nat) (hk : l.length < k) : impl_coded.l0 k [] l (l.length : Int) 0 = some (l.map insW, true) := by
  have h := for_st l.length (fun k i (s : List Int) => impl_coded.l0 k s l (l.length : Int) (i : Int)) (fun i => (l.take i).map insW) (l.map insW, true) ?_ ?_ k 0 (Nat.zero_le _) (by omega)
  · simpa using h
  · intro k i hi
    simp only [impl_coded.l0]
    rw [if_pos (by omega), if_pos (by omega), if_pos (by omega), implCode_eq, Option.bind_some, if_pos (by simp; omega), wrap_succ (by omega), rdIns l i hi]
    rw [← snoc_step l i hi, List.map_append]; rfl
  · intro k
    simp only [impl_coded.l0]
    rw [if_neg (by omega)]; simp
/-- May so many words that count a cell lie from an address on? -/
def codedB (cell times at_ : Int) (n : Nat) : Bool := decide (0 ≤ cell ∧ cell ≤ 23) && (decide (1 ≤ times ∧ times ≤ 63) && (decide (0 ≤ at_ ∧ at_ ≤ 24 - (n : Int)) && !decide (at_ ≤ cell ∧ cell ≤ at_ + (n : Int) - 1)))
theorem coded_eq (cell times at_ : Int) (l : List S54) (hl : l.length ≤ 1000) (k : Nat) (hk : l.length + 1 < k) :
    impl_coded.f k cell times at_ l = some (if codedB cell times at_ l.length = true then l.map insW else [], codedB cell times at_ l.length) := by
  obtain ⟨k, rfl⟩ : ∃ m, k = m + 1 := ⟨k - 1, by omega⟩
  unfold impl_coded.f codedB
  simp only [isCell_eq, from_eq, Option.bind_some, impl_coded.j0]
  rw [wrap_small (x := 24 - (l.length : Int)) (by omega) (by omega)]
  by_cases h1 : 0 ≤ cell ∧ cell ≤ 23
  · rw [decide_eq_true h1, if_pos rfl]
    by_cases h2 : 1 ≤ times ∧ times ≤ 63
    · rw [decide_eq_true h2, if_pos rfl]
      by_cases h3 : 0 ≤ at_ ∧ at_ ≤ 24 - (l.length : Int)
      · rw [decide_eq_true h3, if_pos rfl, wrap_small (x := at_ + (l.length : Int)) (by omega) (by omega), wrap_small (x := at_ + (l.length : Int) - 1) (by omega) (by omega)]
        by_cases h4 : at_ ≤ cell ∧ cell ≤ at_ + (l.length : Int) - 1
        · rw [decide_eq_true h4, if_pos rfl]; rfl
        · rw [decide_eq_false h4, if_neg (by simp), coded_l l (by omega) k (by omega)]; rfl
      · rw [decide_eq_false h3]; rfl
    · rw [decide_eq_false h2]; rfl
  · rw [decide_eq_false h1]; rfl
theorem l25Ok_eq (cell times at_ : Int) (n : Nat) (hn : n ≤ 1000) : spec_l25Ok.f cell times at_ (n : Int) = some (codedB cell times at_ n) := by
  unfold spec_l25Ok.f codedB
  simp only [l1In_eq, Option.bind_some]
  rw [wrap_small (x := 24 - (n : Int)) (by omega) (by omega)]
  by_cases h1 : 0 ≤ cell ∧ cell ≤ 23
  · rw [decide_eq_true h1, if_pos rfl]
    by_cases h2 : 1 ≤ times ∧ times ≤ 63
    · rw [decide_eq_true h2, if_pos rfl]
      by_cases h3 : 0 ≤ at_ ∧ at_ ≤ 24 - (n : Int)
      · rw [decide_eq_true h3, if_pos rfl, wrap_small (x := at_ + (n : Int)) (by omega) (by omega), wrap_small (x := at_ + (n : Int) - 1) (by omega) (by omega)]; rfl
      · rw [decide_eq_false h3]; rfl
    · rw [decide_eq_false h2]; rfl
  · rw [decide_eq_false h1]; rfl
def loseCodeIns (a0 a1 a2 : Int) : List S54 := [(⟨1, 0, 0, 0, a1⟩ : S54), (⟨1, 1, 0, 0, 1⟩ : S54), (⟨4, 2, 3, 0, a0⟩ : S54), (⟨2, 2, 2, 1, 0⟩ : S54), (⟨5, 0, 3, 2, a0⟩ : S54), (⟨10, 0, 0, 1, 0⟩ : S54), (⟨7, 0, 0, 0, wrap64 (a2 + 8)⟩ : S54), (⟨8, 0, 0, 0, wrap64 (a2 + 2)⟩ : S54), (⟨9, 0, 0, 0, 0⟩ : S54)]
def loseCodeW (a0 a1 a2 : Int) : List Int := if codedB a0 a1 a2 9 = true then (loseCodeIns a0 a1 a2).map insW else []
theorem loseCodeW_length (a0 a1 a2 : Int) : (loseCodeW a0 a1 a2).length ≤ 9 := by
  unfold loseCodeW; by_cases h : codedB a0 a1 a2 9 = true
  · rw [if_pos h]; simp [loseCodeIns]
  · rw [if_neg h]; simp
theorem implLoseCode_eq (a0 a1 a2 : Int) (k : Nat) (hk : 20 < k) : impl_LoseCode.f k a0 a1 a2 = some (loseCodeW a0 a1 a2, codedB a0 a1 a2 9) := by
  have h := coded_eq a0 a1 a2 (loseCodeIns a0 a1 a2) (by simp [loseCodeIns]) k (by simp [loseCodeIns]; omega)
  unfold impl_LoseCode.f
  have h' : impl_coded.f k a0 a1 a2 [(⟨1, 0, 0, 0, a1⟩ : S54), (⟨1, 1, 0, 0, 1⟩ : S54), (⟨4, 2, 3, 0, a0⟩ : S54), (⟨2, 2, 2, 1, 0⟩ : S54), (⟨5, 0, 3, 2, a0⟩ : S54), (⟨10, 0, 0, 1, 0⟩ : S54), (⟨7, 0, 0, 0, wrap64 (a2 + 8)⟩ : S54), (⟨8, 0, 0, 0, wrap64 (a2 + 2)⟩ : S54), (⟨9, 0, 0, 0, 0⟩ : S54)] = some (loseCodeW a0 a1 a2, codedB a0 a1 a2 9) := h
  rw [h']; rfl
theorem specLoseCode_eq (a0 a1 a2 : Int) (k : Nat) (hk : 20 < k) : spec_LoseCode.f k a0 a1 a2 = some (loseCodeW a0 a1 a2, codedB a0 a1 a2 9) := by
  unfold spec_LoseCode.f loseCodeW
  have e := l25Ok_eq a0 a1 a2 9 (by omega)
  rw [show ((9 : Nat) : Int) = 9 from rfl] at e
  rw [e, Option.bind_some]
  by_cases h : codedB a0 a1 a2 9 = true
  · have h2 : spec_l25Codes.f k [(⟨1, 0, 0, 0, a1⟩ : S54), (⟨1, 1, 0, 0, 1⟩ : S54), (⟨4, 2, 3, 0, a0⟩ : S54), (⟨2, 2, 2, 1, 0⟩ : S54), (⟨5, 0, 3, 2, a0⟩ : S54), (⟨10, 0, 0, 1, 0⟩ : S54), (⟨7, 0, 0, 0, wrap64 (a2 + 8)⟩ : S54), (⟨8, 0, 0, 0, wrap64 (a2 + 2)⟩ : S54), (⟨9, 0, 0, 0, 0⟩ : S54)] = some ((loseCodeIns a0 a1 a2).map insW) := l25Codes_eq (loseCodeIns a0 a1 a2) (by simp [loseCodeIns]) k (by simp [loseCodeIns]; omega)
    rw [if_pos h, if_pos h, h2, h]; rfl
  · have h' : codedB a0 a1 a2 9 = false := by simpa using h
    rw [if_neg h, if_neg h, h']
/-- Do these words fit here. -/
def placeB (m : List Int) (at' : Int) (c : List Int) : Bool := wordsB m 24 && (decide (0 ≤ at' ∧ at' + (c.length : Int) ≤ 24) && wordsB c (c.length : Int))
def splice (m : List Int) (a : Nat) (c : List Int) : List Int := m.take a ++ (c ++ m.drop (a + c.length))
/-- Memory with words placed in it, if they fit. -/
def placeV (m : List Int) (at' : Int) (c : List Int) : List Int × Bool := if placeB m at' c = true then (splice m at'.toNat c, true) else (m, false)
theorem splice_length (m : List Int) (a : Nat) (c : List Int) (h : a + c.length ≤ m.length) : (splice m a c).length = m.length := by
  unfold splice; rw [List.length_append, List.length_append, List.length_take, List.length_drop]; omega
theorem placeB_parts {m : List Int} {at' : Int} {c : List Int} (h : placeB m at' c = true) : wordsB m 24 = true ∧ (0 ≤ at' ∧ at' + (c.length : Int) ≤ 24) ∧ wordsB c (c.length : Int) = true := by
  unfold placeB at h; rw [Bool.and_eq_true, Bool.and_eq_true] at h; exact ⟨h.1, of_decide_eq_true h.2.1, h.2.2⟩
theorem placeV_length (m : List Int) (at' : Int) (c : List Int) : (placeV m at' c).1.length = m.length := by
  unfold placeV
  by_cases h : placeB m at' c = true
  · obtain ⟨h1, h2, _⟩ := placeB_parts h
    rw [if_pos h]; exact splice_length _ _ _ (by have := wordsB_24 h1; omega)
  · rw [if_neg h]
theorem splice_step (m c : List Int) (a i : Nat) (hi : i < c.length) (ha : a + c.length ≤ m.length) : (m.take a ++ (c.take i ++ m.drop (a + i))).set (a + i) (c[i]'hi) = m.take a ++ (c.take (i + 1) ++ m.drop (a + (i + 1))) := by
  rw [List.set_append_right _ _ (by simp; omega), List.length_take, Nat.min_eq_left (by omega), Nat.add_sub_cancel_left, List.set_append_right _ _ (by simp; omega), List.length_take, Nat.min_eq_left (by omega), Nat.sub_self, List.drop_eq_getElem_cons (by omega), List.set_cons_zero, List.take_succ_eq_append_getElem hi, List.append_assoc]
  rfl
theorem implPlace_eq (m : List Int) (at' : Int) (c : List Int) (hm : m.length ≤ 1048576) (hc : c.length ≤ 1048576) (k : Nat) (hk : 3000000 < k) : impl_Place.f k m at' c = some (placeV m at' c) := by
  unfold impl_Place.f placeV slices_Clone_int_int.f
  rw [if_pos (by omega), Option.bind_some, memOk_eq m (by omega) k (by omega), Option.bind_some]
  by_cases w : wordsB m 24 = true
  · have ln := wordsB_24 w
    rw [if_pos w, from_eq, Option.bind_some]
    by_cases hf : 0 ≤ at' ∧ at' ≤ 24
    · rw [if_pos (decide_eq_true hf), wrap_small (by omega) (by omega)]
      by_cases hg : (c.length : Int) > 24 - at'
      · rw [if_pos hg, if_neg]
        intro hp; have := (placeB_parts hp).2.1; omega
      · rw [if_neg hg, wordsOk_eq c _ (by omega) k (by omega), Option.bind_some]
        by_cases wc : wordsB c (c.length : Int) = true
        · rw [if_pos wc, if_pos hf.1, if_pos (by omega), if_pos (by omega), if_pos]
          · rfl
          · unfold placeB; rw [w, wc, decide_eq_true ⟨hf.1, by omega⟩]; rfl
        · rw [if_neg wc, if_neg]
          intro hp; exact wc (placeB_parts hp).2.2
    · rw [if_neg (by simpa using hf), if_neg]
      intro hp; have := (placeB_parts hp).2.1; omega
  · rw [if_neg w, if_neg]
    intro hp; exact w (placeB_parts hp).1
theorem implHartOk_eq (regs : List Int) (pc st : Int) (hl : regs.length ≤ 2097152) (k : Nat) (hk : regs.length < k) : impl_HartOk.f k regs pc st = some (hartB regs pc st) := by
  unfold impl_HartOk.f hartB
  simp only [wordsOk_eq regs 4 hl k hk, isCell_eq, from_eq, Option.bind_some, ite_some']
theorem implAllHalt_eq (l : List S31) (hl : l.length ≤ 1048576) (k : Nat) (hk : l.length < k) {q : Bool} (hq : q = true ↔ (∀ j, j < l.length → (rd_T31 l (j : Int)).f2 = 1) ∧ decide ((l.length : Int) > 0) = true) : impl_AllHalt.f k l = some q := by
  unfold impl_AllHalt.f
  by_cases h : (l.length : Int) > 0
  · rw [if_pos h]
    unfold slices_ContainsFunc_at_impl_AllHalt_1.f slices_IndexFunc_at_impl_AllHalt_1.f
    have hs : ∀ k i, i < l.length → ¬ ¬ (rd_T31 l (i : Int)).f2 = 1 → slices_IndexFunc_at_impl_AllHalt_1.l0 (k + 1) l (l.length : Int) (i : Int) = slices_IndexFunc_at_impl_AllHalt_1.l0 k l (l.length : Int) ((i + 1 : Nat) : Int) := by
      intro k i hi hp
      rw [slices_IndexFunc_at_impl_AllHalt_1.l0, if_pos (by omega), if_pos (by omega), if_pos (by omega), impl_AllHalt_1.f, Classical.not_not.1 hp, Option.bind_some, if_neg (by decide), wrap_succ (by omega)]
    have hb : ∀ k i, i < l.length → ¬ (rd_T31 l (i : Int)).f2 = 1 → slices_IndexFunc_at_impl_AllHalt_1.l0 (k + 1) l (l.length : Int) (i : Int) = some (i : Int) := by
      intro k i hi hp
      rw [slices_IndexFunc_at_impl_AllHalt_1.l0, if_pos (by omega), if_pos (by omega), if_pos (by omega), impl_AllHalt_1.f, Option.bind_some, if_pos (by simpa using hp)]
    have he : ∀ k, slices_IndexFunc_at_impl_AllHalt_1.l0 (k + 1) l (l.length : Int) (l.length : Int) = some (-1) := by
      intro k
      rw [slices_IndexFunc_at_impl_AllHalt_1.l0, if_neg (by omega)]
    rcases for_find l.length (fun k i => slices_IndexFunc_at_impl_AllHalt_1.l0 k l (l.length : Int) (i : Int)) (fun j => ¬ (rd_T31 l (j : Int)).f2 = 1) (fun j => (j : Int)) (-1) hs hb he k 0 (Nat.zero_le _) (by omega) with ⟨j, _, h2, h3, _, h5⟩ | ⟨h1, h2⟩
    · have h5' : slices_IndexFunc_at_impl_AllHalt_1.l0 k l (l.length : Int) 0 = some (j : Int) := h5
      rw [h5']
      simp only [Option.bind_some]; congr 1; symm
      rw [decide_eq_true (by omega : (j : Int) ≥ 0), Bool.not_true, Bool.eq_false_iff]; intro hh
      exact h3 ((hq.1 hh).1 j h2)
    · have h2' : slices_IndexFunc_at_impl_AllHalt_1.l0 k l (l.length : Int) 0 = some (-1) := h2
      rw [h2']
      simp only [Option.bind_some]; congr 1; symm
      rw [decide_eq_false (by omega : ¬ (-1 : Int) ≥ 0), Bool.not_false, hq]
      exact ⟨fun j hj => Classical.not_not.1 (h1 j (Nat.zero_le _) hj), decide_eq_true h⟩
  · rw [if_neg h]; congr 1; symm
    rw [Bool.eq_false_iff]; intro hh; exact h (of_decide_eq_true (hq.1 hh).2)
theorem implAddress_eq (n : Int) : impl_address.f n = some (n % 24) := by
  unfold impl_address.f
  have b := tmod_bd n 24 (by omega)
  rw [wrap_small (by omega) (by omega), tmod_up n 24 (by omega) (by omega)]
theorem implWrapped_eq (n : Int) : impl_wrapped.f n = some (n % 65536) := by
  unfold impl_wrapped.f
  have b := tmod_bd n 65536 (by omega)
  rw [wrap_small (x := Int.tmod n 65536 + 65535) (by omega) (by omega), wrap_small (by omega) (by omega), show Int.tmod n 65536 + 65535 + 1 = Int.tmod n 65536 + 65536 by omega, tmod_up n 65536 (by omega) (by omega)]
/-- What an Ins does with the registers, the place, and what is put. -/
def opV (r : List Int) (pc st : Int) (o i a b n got : Int) : List Int × Int × Int × Int :=
  if o = 1 then (r.set i.toNat n, (pc + 1) % 24, st, -1)
  else if o = 2 then (r.set i.toNat ((rd r a + rd r b) % 65536), (pc + 1) % 24, st, -1)
  else if o = 10 then (r.set i.toNat ((rd r a - rd r b) % 65536), (pc + 1) % 24, st, -1)
  else if o = 3 then (r.set i.toNat ((rd r a + n) % 65536), (pc + 1) % 24, st, -1)
  else if o = 4 then (r.set i.toNat got, (pc + 1) % 24, st, -1)
  else if o = 5 then (r, (pc + 1) % 24, st, rd r b)
  else if o = 6 then (r.set i.toNat got, (pc + 1) % 24, st, (got + rd r b) % 65536)
  else if o = 7 then (if rd r a = 0 then (r, n % 24, st, -1) else (r, (pc + 1) % 24, st, -1))
  else if o = 8 then (r, n % 24, st, -1)
  else if o = 9 then (r, pc, 1, -1)
  else (r, (pc + 1) % 24, st, -1)
def workV (r : List Int) (pc st : Int) (o i a b n got : Int) : List Int × Int × Int × Int :=
  if hartB r pc st = true ∧ st = 0 ∧ (0 ≤ got ∧ got ≤ 65535) then (if insOkB o i a b n = true then opV r pc st o i a b n got else (r, pc, 2, -1)) else (r, pc, st, -1)
theorem hartB_parts {r : List Int} {p s : Int} (h : hartB r p s = true) : r.length = 4 ∧ (∀ x, x ∈ r → 0 ≤ x ∧ x ≤ 65535) ∧ (0 ≤ p ∧ p ≤ 23) ∧ (0 ≤ s ∧ s ≤ 2) := by
  have l := hartB_len h
  unfold hartB at h; rw [Bool.and_eq_true, Bool.and_eq_true] at h
  exact ⟨l, fun x hx => wordsB_mem h.1 x hx, of_decide_eq_true h.2.1, of_decide_eq_true h.2.2⟩
theorem rd_word {r : List Int} (hw : ∀ x, x ∈ r → 0 ≤ x ∧ x ≤ 65535) (i : Int) : 0 ≤ rd r i ∧ rd r i ≤ 65535 := by
  unfold rd
  rw [List.getD_eq_getElem?_getD]
  cases h : r[i.toNat]? with
  | none => simp
  | some x => exact hw x (List.mem_of_getElem? h)
theorem implWork_j2 (k : Nat) (r : List Int) (pc st o i a b n got : Int) (hr : r.length = 4) (hw : ∀ x, x ∈ r → 0 ≤ x ∧ x ≤ 65535) (hg : 0 ≤ got ∧ got ≤ 65535) (hi : 0 ≤ i ∧ i ≤ 3) (hn : 0 ≤ n ∧ n ≤ 63) :
    impl_Work.j2 (k + 1) got (rd r a) (rd r b) (-1) ((pc + 1) % 24) o r pc st o i a b n = some (opV r pc st o i a b n got) := by
  have wa := rd_word hw a
  have wb := rd_word hw b
  rw [impl_Work.j2]
  unfold opV
  rw [wrap_small (x := rd r a + rd r b) (by omega) (by omega), wrap_small (x := rd r a - rd r b) (by omega) (by omega), wrap_small (x := rd r a + n) (by omega) (by omega), wrap_small (x := got + rd r b) (by omega) (by omega)]
  simp only [implWrapped_eq, implAddress_eq, Option.bind_some]
  have h1 : i < (r.length : Int) := by omega
  simp only [if_pos hi.1, if_pos h1]
  by_cases c1 : o = 1
  · rw [if_pos c1, if_pos c1]
  rw [if_neg c1, if_neg c1]
  by_cases c2 : o = 2
  · rw [if_pos c2, if_pos c2]
  rw [if_neg c2, if_neg c2]
  by_cases c3 : o = 10
  · rw [if_pos c3, if_pos c3]
  rw [if_neg c3, if_neg c3]
  by_cases c4 : o = 3
  · rw [if_pos c4, if_pos c4]
  rw [if_neg c4, if_neg c4]
  by_cases c5 : o = 4
  · rw [if_pos c5, if_pos c5]
  rw [if_neg c5, if_neg c5]
  by_cases c6 : o = 5
  · rw [if_pos c6, if_pos c6]
  rw [if_neg c6, if_neg c6]
  by_cases c7 : o = 6
  · rw [if_pos c7, if_pos c7]
  rw [if_neg c7, if_neg c7]
  by_cases c8 : o = 7
  · rw [if_pos c8, if_pos c8]
    by_cases c : rd r a = 0
    · rw [if_pos c, if_pos c]
    · rw [if_neg c, if_neg c]
  rw [if_neg c8, if_neg c8]
  by_cases c9 : o = 8
  · rw [if_pos c9, if_pos c9]
  rw [if_neg c9, if_neg c9]
  by_cases c10 : o = 9
  · rw [if_pos c10, if_pos c10]
  rw [if_neg c10, if_neg c10]
theorem implWork_eq (r : List Int) (pc st o i a b n got : Int) (hl : r.length ≤ 2097152) (k : Nat) (hk : r.length + 10 < k) : impl_Work.f k r pc st o i a b n got = some (workV r pc st o i a b n got) := by
  obtain ⟨k, rfl⟩ : ∃ m, k = m + 3 := ⟨k - 3, by omega⟩
  unfold impl_Work.f impl_copyHart.f slices_Clone_int_int.f workV
  rw [if_pos (by omega), Option.bind_some, Option.bind_some]
  simp only [implHartOk_eq r pc st (by omega) (k + 3) (by omega), Option.bind_some]
  have jt : impl_Work.j0 (k + 3) got true r pc st o i a b n = some (r, pc, st, -1) := by rw [impl_Work.j0, if_pos rfl]
  by_cases h : hartB r pc st = true
  · obtain ⟨p1, p2, p3, p4⟩ := hartB_parts h
    rw [if_pos h]
    by_cases hs : st = 0
    · rw [if_pos hs, isWord_eq, Option.bind_some]
      by_cases hg : 0 ≤ got ∧ got ≤ 65535
      · rw [if_pos ⟨h, hs, hg⟩, decide_eq_true hg, Bool.not_true, impl_Work.j0, if_neg (by simp)]
        unfold impl_InsOk.f
        rw [Option.bind_some]
        by_cases hi : insOkB o i a b n = true
        · obtain ⟨b0, b0', b1, b1', b2, b2', b3, b3', b4, b4'⟩ := insOkB_bounds hi
          rw [if_pos hi, hi, Bool.not_true, impl_Work.j1, if_neg (by simp), if_pos b2, if_pos (by omega), if_pos b3, if_pos (by omega), implAddress_eq, Option.bind_some, wrap_small (x := pc + 1) (by omega) (by omega)]
          exact implWork_j2 k r pc st o i a b n got p1 p2 hg ⟨b1, b1'⟩ ⟨b4, b4'⟩
        · have hi' : insOkB o i a b n = false := by simpa using hi
          rw [if_neg hi, hi', Bool.not_false, impl_Work.j1, if_pos rfl]
      · rw [if_neg (fun c => hg c.2.2), decide_eq_false hg, Bool.not_false, jt]
    · rw [if_neg hs, jt, if_neg (fun c => hs c.2.1)]
  · rw [if_neg h, jt, if_neg (fun c => h c.1)]
/-- What a word says. -/
def insOf (w : Int) : Int × Int × Int × Int × Int := (w % 16, w / 16 % 4, w / 64 % 4, w / 256 % 4, w / 1024)
def decodeB (w : Int) : Bool := decide (0 ≤ w ∧ w ≤ 65535) && insOkB (w % 16) (w / 16 % 4) (w / 64 % 4) (w / 256 % 4) (w / 1024)
def decodeV (w : Int) : Int × Int × Int × Int × Int × Bool := if decodeB w = true then (w % 16, w / 16 % 4, w / 64 % 4, w / 256 % 4, w / 1024, true) else (0, 0, 0, 0, 0, false)
theorem implDecode_eq (w : Int) : impl_Decode.f w = some (decodeV w) := by
  unfold impl_Decode.f decodeV decodeB impl_InsOk.f
  rw [isWord_eq, Option.bind_some]
  by_cases h : 0 ≤ w ∧ w ≤ 65535
  · rw [decide_eq_true h, if_pos rfl, Bool.true_and]
    have e1 : Int.tmod w 16 = w % 16 := tmod_pos _ _ h.1
    have e2 : Int.tmod (wrap64 (Int.tdiv w 16)) 4 = w / 16 % 4 := by rw [tdiv_pos _ _ h.1, wrap_small (by omega) (by omega), tmod_pos _ _ (by omega)]
    have e3 : Int.tmod (wrap64 (Int.tdiv w 64)) 4 = w / 64 % 4 := by rw [tdiv_pos _ _ h.1, wrap_small (by omega) (by omega), tmod_pos _ _ (by omega)]
    have e4 : Int.tmod (wrap64 (Int.tdiv w 256)) 4 = w / 256 % 4 := by rw [tdiv_pos _ _ h.1, wrap_small (by omega) (by omega), tmod_pos _ _ (by omega)]
    have e5 : wrap64 (Int.tdiv w 1024) = w / 1024 := by rw [tdiv_pos _ _ h.1, wrap_small (by omega) (by omega)]
    rw [e1, e2, e3, e4, e5, Option.bind_some]
    by_cases c : insOkB (w % 16) (w / 16 % 4) (w / 64 % 4) (w / 256 % 4) (w / 1024) = true
    · rw [if_pos c, if_pos c]
    · rw [if_neg c, if_neg c]
  · rw [decide_eq_false h, if_neg (by simp), Bool.false_and, if_neg (by simp)]
/-- Which cell an Ins goes to; -1. -/
def targetV (o i a b n : Int) (r : List Int) : Int := if insOkB o i a b n = true ∧ (o = 4 ∨ o = 5 ∨ o = 6) ∧ r.length = 4 then wrap64 (rd r a + n) % 24 else -1
theorem implTarget_eq (o i a b n : Int) (r : List Int) : impl_Target.f o i a b n r = some (targetV o i a b n r) := by
  unfold impl_Target.f targetV impl_InsOk.f impl_aims.f
  rw [Option.bind_some]
  by_cases h : insOkB o i a b n = true
  · have hb := insOkB_bounds h
    rw [if_pos h]
    have ha : (if o = 4 then some true else if o = 5 then some true else some (o == 6)) = some (decide (o = 4 ∨ o = 5 ∨ o = 6)) := by
      by_cases c4 : o = 4
      · rw [if_pos c4, decide_eq_true (.inl c4)]
      · rw [if_neg c4]
        by_cases c5 : o = 5
        · rw [if_pos c5, decide_eq_true (.inr (.inl c5))]
        · rw [if_neg c5]; congr 1; rw [Bool.eq_iff_iff]; simp [c4, c5]
    rw [ha, Option.bind_some]
    by_cases c : o = 4 ∨ o = 5 ∨ o = 6
    · rw [decide_eq_true c, if_pos rfl]
      by_cases hl : r.length = 4
      · rw [if_pos (by omega), if_pos (by omega), if_pos (by omega), implAddress_eq, Option.bind_some, if_pos ⟨h, c, hl⟩]
      · rw [if_neg (by omega), if_neg (fun x => hl x.2.2)]
    · rw [decide_eq_false c, if_neg (by simp), if_neg (fun x => c x.2.1)]
  · rw [if_neg h, if_neg (fun x => h x.1)]
abbrev Hh := S31
def hB (h : Hh) : Bool := hartB h.f0 h.f1 h.f2
/-- One step of a hart that goes, in a memory that is right. -/
def gotV (m : List Int) (h : Hh) : Int := if 0 ≤ targetV (decodeV (rd m h.f1)).1 (decodeV (rd m h.f1)).2.1 (decodeV (rd m h.f1)).2.2.1 (decodeV (rd m h.f1)).2.2.2.1 (decodeV (rd m h.f1)).2.2.2.2.1 h.f0 then rd m (targetV (decodeV (rd m h.f1)).1 (decodeV (rd m h.f1)).2.1 (decodeV (rd m h.f1)).2.2.1 (decodeV (rd m h.f1)).2.2.2.1 (decodeV (rd m h.f1)).2.2.2.2.1 h.f0) else 0
def tgtV (m : List Int) (h : Hh) : Int := targetV (decodeV (rd m h.f1)).1 (decodeV (rd m h.f1)).2.1 (decodeV (rd m h.f1)).2.2.1 (decodeV (rd m h.f1)).2.2.2.1 (decodeV (rd m h.f1)).2.2.2.2.1 h.f0
def wkV (m : List Int) (h : Hh) : List Int × Int × Int × Int := workV h.f0 h.f1 h.f2 (decodeV (rd m h.f1)).1 (decodeV (rd m h.f1)).2.1 (decodeV (rd m h.f1)).2.2.1 (decodeV (rd m h.f1)).2.2.2.1 (decodeV (rd m h.f1)).2.2.2.2.1 (gotV m h)
def stepV (m : List Int) (h : Hh) : List Int × Hh := (if 0 ≤ (wkV m h).2.2.2 then m.set (tgtV m h).toNat (wkV m h).2.2.2 else m, ⟨(wkV m h).1, (wkV m h).2.1, (wkV m h).2.2.1⟩)
theorem tgt_range (o i a b n : Int) (r : List Int) : targetV o i a b n r = -1 ∨ 0 ≤ targetV o i a b n r ∧ targetV o i a b n r ≤ 23 := by
  unfold targetV
  by_cases h : insOkB o i a b n = true ∧ (o = 4 ∨ o = 5 ∨ o = 6) ∧ r.length = 4
  · rw [if_pos h]; right; omega
  · rw [if_neg h]; left; rfl
/-- What puts has a target. -/
theorem put_tgt {r : List Int} {pc st o i a b n got : Int} (h : 0 ≤ (workV r pc st o i a b n got).2.2.2) : 0 ≤ targetV o i a b n r := by
  unfold workV at h
  by_cases c : hartB r pc st = true ∧ st = 0 ∧ (0 ≤ got ∧ got ≤ 65535)
  · rw [if_pos c] at h
    by_cases hi : insOkB o i a b n = true
    · rw [if_pos hi] at h
      have hl := hartB_len c.1
      unfold targetV
      by_cases c5 : o = 5
      · rw [if_pos ⟨hi, .inr (.inl c5), hl⟩]; omega
      · by_cases c6 : o = 6
        · rw [if_pos ⟨hi, .inr (.inr c6), hl⟩]; omega
        · exfalso
          unfold opV at h
          rw [if_neg c5, if_neg c6] at h
          revert h
          split
          · simp
          split
          · simp
          split
          · simp
          split
          · simp
          split
          · simp
          split
          · split <;> simp
          split
          · simp
          split <;> simp
    · rw [if_neg hi] at h; simp at h
  · rw [if_neg c] at h; simp at h
theorem implStep_eq (m : List Int) (h : Hh) (hm : m.length = 24) (hh : hB h = true) (k : Nat) (hk : 20 < k) : impl_step.f k m h.f0 h.f1 h.f2 = some ((stepV m h).2.f0, (stepV m h).2.f1, (stepV m h).2.f2, (stepV m h).1) := by
  obtain ⟨p1, p2, p3, p4⟩ := hartB_parts hh
  unfold impl_step.f stepV
  rw [if_pos p3.1, if_pos (by omega), implDecode_eq, Option.bind_some]
  simp only [implTarget_eq, Option.bind_some]
  rcases tgt_range (decodeV (rd m h.f1)).1 (decodeV (rd m h.f1)).2.1 (decodeV (rd m h.f1)).2.2.1 (decodeV (rd m h.f1)).2.2.2.1 (decodeV (rd m h.f1)).2.2.2.2.1 h.f0 with t | t
  · rw [if_neg (by omega), implWork_eq _ _ _ _ _ _ _ _ _ (by omega) k (by omega), Option.bind_some]
    have e : gotV m h = 0 := by unfold gotV; rw [if_neg (by omega)]
    unfold wkV; rw [e]
    by_cases c : 0 ≤ (workV h.f0 h.f1 h.f2 (decodeV (rd m h.f1)).1 (decodeV (rd m h.f1)).2.1 (decodeV (rd m h.f1)).2.2.1 (decodeV (rd m h.f1)).2.2.2.1 (decodeV (rd m h.f1)).2.2.2.2.1 0).2.2.2
    · have := put_tgt c; omega
    · rw [if_neg c, if_neg c]
  · have e : gotV m h = rd m (tgtV m h) := by unfold gotV tgtV; rw [if_pos t.1]
    rw [if_pos t.1, if_pos t.1, if_pos (by omega), implWork_eq _ _ _ _ _ _ _ _ _ (by omega) k (by omega), Option.bind_some]
    unfold wkV; rw [e]; unfold tgtV
    by_cases c : 0 ≤ (workV h.f0 h.f1 h.f2 (decodeV (rd m h.f1)).1 (decodeV (rd m h.f1)).2.1 (decodeV (rd m h.f1)).2.2.1 (decodeV (rd m h.f1)).2.2.2.1 (decodeV (rd m h.f1)).2.2.2.2.1 (rd m (targetV (decodeV (rd m h.f1)).1 (decodeV (rd m h.f1)).2.1 (decodeV (rd m h.f1)).2.2.1 (decodeV (rd m h.f1)).2.2.2.1 (decodeV (rd m h.f1)).2.2.2.2.1 h.f0))).2.2.2
    · rw [if_pos c, if_pos c]
    · rw [if_neg c, if_neg c]
theorem rdH (l : List Hh) (i : Nat) (h : i < l.length) : rd_T31 l (i : Int) = l[i] := by
  unfold rd_T31; simp [List.getD, h]
/-- Rows that are not too long. -/
def shortH (l : List Hh) : Prop := ∀ h, h ∈ l → h.f0.length ≤ 2097152
theorem copyHarts_eq (l : List Hh) (hl : l.length ≤ 2097152) (hb : shortH l) (k : Nat) (hk : l.length < k) : impl_copyHarts.f k l = some l := by
  unfold impl_copyHarts.f
  have h := for_st l.length (fun k i (s : List Hh) => impl_copyHarts.l0 k s l (l.length : Int) (i : Int)) (fun i => l.take i) l ?_ ?_ k 0 (Nat.zero_le _) (by omega)
  · simpa using h
  · intro k i hi
    simp only [impl_copyHarts.l0]
    have hx := hb _ (List.getElem_mem hi)
    rw [if_pos (by omega), if_pos (by omega), if_pos (by omega), rdH l i hi]
    unfold impl_copyHart.f slices_Clone_int_int.f
    rw [if_pos (by omega), Option.bind_some, Option.bind_some, if_pos (by simp; omega), wrap_succ (by omega), ← snoc_step l i hi]
  · intro k
    simp only [impl_copyHarts.l0]
    rw [if_neg (by omega), List.take_of_length_le (Nat.le_refl _)]
def goB (h : Hh) : Bool := hB h && (h.f2 == 0)
theorem implGoes_eq (h : Hh) (hl : h.f0.length ≤ 2097152) (k : Nat) (hk : h.f0.length < k) : impl_goes.f k h.f0 h.f1 h.f2 = some (goB h) := by
  unfold impl_goes.f goB hB
  rw [implHartOk_eq _ _ _ hl k hk, Option.bind_some]
  cases hartB h.f0 h.f1 h.f2 <;> rfl
/-- A run: who is named and goes does a step. -/
def mayGo (hs : List Hh) (i : Int) : Prop := 0 ≤ i ∧ i < (hs.length : Int) ∧ goB (rd_T31 hs i) = true
instance (hs : List Hh) (i : Int) : Decidable (mayGo hs i) := by unfold mayGo; infer_instance
def nextV (s : List Int × List Hh) (i : Int) : List Int × List Hh := if mayGo s.2 i then ((stepV s.1 (rd_T31 s.2 i)).1, s.2.set i.toNat (stepV s.1 (rd_T31 s.2 i)).2) else s
def runV (m : List Int) (hs : List Hh) (order : List Int) : List Int × List Hh := order.foldl nextV (m, hs)
theorem stepV_len (m : List Int) (h : Hh) : (stepV m h).1.length = m.length := by
  unfold stepV; dsimp only; split
  · rw [List.length_set]
  · rfl
theorem nextV_len (s : List Int × List Hh) (i : Int) : (nextV s i).1.length = s.1.length ∧ (nextV s i).2.length = s.2.length := by
  unfold nextV; split
  · exact ⟨stepV_len _ _, by rw [List.length_set]⟩
  · exact ⟨rfl, rfl⟩
theorem stepV_short (m : List Int) (h : Hh) (hl : h.f0.length ≤ 2097152) : (stepV m h).2.f0.length ≤ 2097152 := by
  unfold stepV wkV; dsimp only
  unfold workV; split
  · split
    · unfold opV
      split
      · rw [List.length_set]; exact hl
      split
      · rw [List.length_set]; exact hl
      split
      · rw [List.length_set]; exact hl
      split
      · rw [List.length_set]; exact hl
      split
      · rw [List.length_set]; exact hl
      split
      · exact hl
      split
      · rw [List.length_set]; exact hl
      split
      · split <;> exact hl
      split
      · exact hl
      split <;> exact hl
    · exact hl
  · exact hl
theorem rdH_mem (l : List Hh) (i : Int) (h0 : 0 ≤ i) (h1 : i < (l.length : Int)) : rd_T31 l i ∈ l := by
  obtain ⟨j, rfl⟩ : ∃ j : Nat, i = (j : Int) := ⟨i.toNat, by omega⟩
  rw [rdH l j (by omega)]; exact List.getElem_mem _
theorem nextV_short (s : List Int × List Hh) (i : Int) (h : shortH s.2) : shortH (nextV s i).2 := by
  unfold nextV; split
  · rename_i c
    intro x hx
    rcases List.mem_or_eq_of_mem_set hx with hx | rfl
    · exact h x hx
    · exact stepV_short _ _ (h _ (rdH_mem _ _ c.1 c.2.1))
  · exact h
theorem runV_snoc (m : List Int) (hs : List Hh) (o : List Int) (i : Int) : runV m hs (o ++ [i]) = nextV (runV m hs o) i := by unfold runV; rw [List.foldl_append]; rfl
theorem runV_len (m : List Int) (hs : List Hh) (o : List Int) : (runV m hs o).1.length = m.length ∧ (runV m hs o).2.length = hs.length := by
  have g : ∀ (o : List Int) s, ((o.foldl nextV s).1).length = s.1.length ∧ ((o.foldl nextV s).2).length = s.2.length := by
    intro o
    induction o with
    | nil => exact fun s => ⟨rfl, rfl⟩
    | cons i o ih => intro s; have h := ih (nextV s i); have h2 := nextV_len s i; exact ⟨h.1.trans h2.1, h.2.trans h2.2⟩
  exact g o (m, hs)
theorem runV_short (m : List Int) (hs : List Hh) (o : List Int) (h : shortH hs) : shortH (runV m hs o).2 := by
  have g : ∀ (o : List Int) s, shortH s.2 → shortH (o.foldl nextV s).2 := by
    intro o
    induction o with
    | nil => exact fun s h => h
    | cons i o ih => intro s h; exact ih _ (nextV_short s i h)
  exact g o (m, hs) h
theorem flat_loop (o : List Int) (ho : o.length ≤ 2000) (m : List Int) (hs : List Hh) (hm : m.length = 24) (hn : hs.length ≤ 2097152) (hb : shortH hs) (k : Nat) (hk : 3000000 < k) : impl_FlatRun.l0 k m hs o (o.length : Int) 0 = some (runV m hs o) := by
  obtain ⟨C, hC⟩ : ∃ C : Nat, C = 2200000 := ⟨_, rfl⟩
  have h := for_st o.length (fun k' i (s : List Int × List Hh) => impl_FlatRun.l0 (k' + C) s.1 s.2 o (o.length : Int) (i : Int)) (fun i => runV m hs (o.take i)) (runV m hs o) ?_ ?_ (k - C) 0 (Nat.zero_le _) (by omega)
  · rw [show k - C + C = k by omega] at h; simp only [List.take_zero] at h; exact h
  · intro k' i hi
    rw [show k' + 1 + C = (k' + C) + 1 by omega]
    generalize hs0 : runV m hs (o.take i) = s
    have e : runV m hs (o.take (i + 1)) = nextV s o[i] := by rw [← snoc_step o i hi, runV_snoc, hs0]
    have hl := runV_len m hs (o.take i)
    have hsh := runV_short m hs (o.take i) hb
    rw [hs0] at hl hsh
    rw [e]
    simp only [impl_FlatRun.l0]
    rw [if_pos (by omega), if_pos (by omega), if_pos (by omega), rd_nat o i hi, from_eq, Option.bind_some, wrap_succ (by omega), wrap_small (by omega) (by omega)]
    unfold nextV
    by_cases c : 0 ≤ o[i] ∧ o[i] ≤ (s.2.length : Int) - 1
    · rw [if_pos (decide_eq_true c), if_pos c.1, if_pos (by omega), implGoes_eq _ (hsh _ (rdH_mem _ _ c.1 (by omega))) _ (by have := hsh _ (rdH_mem _ _ c.1 (by omega : o[i] < (s.2.length : Int))); omega), Option.bind_some]
      by_cases g : goB (rd_T31 s.2 o[i]) = true
      · have g2 : hB (rd_T31 s.2 o[i]) = true := by unfold goB at g; rw [Bool.and_eq_true] at g; exact g.1
        rw [if_pos g, implStep_eq _ _ (by omega) g2 _ (by omega), Option.bind_some, if_pos ⟨c.1, by omega, g⟩]
      · rw [if_neg g, if_neg (fun x => g x.2.2)]
    · rw [if_neg (by simpa using c), if_neg (fun x => c ⟨x.1, by have := x.2.1; omega⟩)]
  · intro k'
    rw [show k' + 1 + C = (k' + C) + 1 by omega]
    simp only [impl_FlatRun.l0]
    rw [if_neg (by omega), List.take_of_length_le (Nat.le_refl _)]
theorem implFlatRun_eq (m : List Int) (hs : List Hh) (o : List Int) (hm : m.length ≤ 2097152) (hn : hs.length ≤ 2097152) (hb : shortH hs) (k : Nat) (hk : 3000002 < k) :
    impl_FlatRun.f k m hs o = some (if o.length ≤ 2000 ∧ wordsB m 24 = true then runV m hs o else (m, hs)) := by
  obtain ⟨k, rfl⟩ : ∃ j, k = j + 1 := ⟨k - 1, by omega⟩
  unfold impl_FlatRun.f slices_Clone_int_int.f
  rw [if_pos (by omega), Option.bind_some, copyHarts_eq hs hn hb _ (by omega), Option.bind_some]
  have jt : impl_FlatRun.j0 (k + 1) m hs o true = some (m, hs) := by rw [impl_FlatRun.j0, if_pos rfl]
  by_cases ho : (o.length : Int) > 2000
  · rw [if_pos ho, jt, if_neg (fun c => by omega)]
  · rw [if_neg ho, memOk_eq m hm _ (by omega), Option.bind_some]
    by_cases w : wordsB m 24 = true
    · rw [w, Bool.not_true, impl_FlatRun.j0, if_neg (by simp), flat_loop o (by omega) m hs (wordsB_24 w) hn hb k (by omega), if_pos ⟨by omega, rfl⟩]
    · have w' : wordsB m 24 = false := by simpa using w
      rw [w', Bool.not_false, jt, if_neg (fun c => by simpa using c.2)]
theorem implHartNew_eq (n : Int) : impl_HartNew.f n = some ([0, 0, 0, 0], n % 24, 0) := by
  unfold impl_HartNew.f
  rw [if_pos (by omega), implAddress_eq]; rfl
/-- Harts that count: what each has counted, and how many steps it has left. -/
def sumC (cs : List (Nat × Nat)) : Nat := (cs.map Prod.fst).sum
theorem sumC_cons (x : Nat × Nat) (cs : List (Nat × Nat)) : sumC (x :: cs) = x.1 + sumC cs := by simp [sumC]
theorem sumC_set : ∀ (cs : List (Nat × Nat)) (i d l : Nat) (h : i < cs.length), sumC (cs.set i ((cs[i]'h).1 + d, l)) = sumC cs + d
  | [], i, d, l, h => by simp at h
  | x :: cs, 0, d, l, h => by simp only [List.set_cons_zero, sumC_cons, List.getElem_cons_zero]; omega
  | x :: cs, i + 1, d, l, h => by
    simp only [List.set_cons_succ, sumC_cons, List.getElem_cons_succ]
    rw [sumC_set cs i d l (by simpa using h)]; omega
theorem sumC_le (t : Nat) : ∀ (cs : List (Nat × Nat)), (∀ i (h : i < cs.length), (cs[i]'h).1 ≤ t) → sumC cs ≤ cs.length * t
  | [], _ => by simp [sumC]
  | x :: cs, h => by
    have h0 := h 0 (by simp)
    have h1 := sumC_le t cs (fun i hi => by have := h (i + 1) (by simpa using hi); simpa using this)
    rw [sumC_cons, List.length_cons, Nat.succ_mul]; simp at h0; omega
theorem sumC_eq (t : Nat) : ∀ (cs : List (Nat × Nat)), (∀ i (h : i < cs.length), (cs[i]'h).1 = t) → sumC cs = cs.length * t
  | [], _ => by simp [sumC]
  | x :: cs, h => by
    have h0 := h 0 (by simp)
    have h1 := sumC_eq t cs (fun i hi => by have := h (i + 1) (by simpa using hi); simpa using this)
    rw [sumC_cons, List.length_cons, Nat.succ_mul]; simp at h0; omega
/-- What holds of a memory and harts. -/
def CInv (HS : Nat → Nat → Nat → Hh → Prop) (P : Nat → Int → Prop) (base : Int → List Int) (s : List Int × List Hh) (cs : List (Nat × Nat)) : Prop :=
  (∃ v, s.1 = base v ∧ P (sumC cs) v) ∧ s.2.length = cs.length ∧ ∀ i (h : i < cs.length) (h2 : i < s.2.length), HS (sumC cs) (cs[i]'h).1 (cs[i]'h).2 (s.2[i]'h2)
structure CSys (n t : Nat) (HS : Nat → Nat → Nat → Hh → Prop) (P : Nat → Int → Prop) (base : Int → List Int) : Prop where
  step : ∀ S c l h v, HS S c l h → 0 < l → P S v → S ≤ n * t → goB h = true ∧ ∃ d v' h', stepV (base v) h = (base v', h') ∧ HS (S + d) (c + d) (l - 1) h' ∧ P (S + d) v'
  halt : ∀ S c h, HS S c 0 h → goB h = false ∧ h.f2 = 1 ∧ c = t
  mono : ∀ S S' c l h, HS S c l h → S ≤ S' → (n = 1 → S = S') → HS S' c l h
  le : ∀ S c l h, HS S c l h → c ≤ t
theorem CInv_next {n t : Nat} {HS : Nat → Nat → Nat → Hh → Prop} {P : Nat → Int → Prop} {base : Int → List Int} (Y : CSys n t HS P base) (s : List Int × List Hh) (cs : List (Nat × Nat)) (hn : cs.length = n) (h : CInv HS P base s cs) (i : Nat) (hi : i < n) :
    ∃ cs', CInv HS P base (nextV s (i : Int)) cs' ∧ cs'.length = n ∧ ∀ j, (cs'.getD j (0, 0)).2 ≤ (cs.getD j (0, 0)).2 - if j = i then 1 else 0 := by
  obtain ⟨⟨v, hm, hP⟩, hl, hH⟩ := h
  have h1 : i < cs.length := by omega
  have h2 : i < s.2.length := by omega
  have hx := hH i h1 h2
  have hS : sumC cs ≤ n * t := by
    have := sumC_le t cs (fun j hj => Y.le _ _ _ _ (hH j hj (by omega)))
    rw [hn] at this; exact this
  by_cases c : 0 < (cs[i]'h1).2
  · obtain ⟨g, d, v', h', e, a1, a2⟩ := Y.step _ _ _ _ v hx c hP hS
    have en : nextV s (i : Int) = (base v', s.2.set i h') := by
      unfold nextV
      rw [rdH s.2 i h2, if_pos ⟨by omega, by omega, by rw [rdH s.2 i h2]; exact g⟩, hm, e]; rfl
    refine ⟨cs.set i ((cs[i]'h1).1 + d, (cs[i]'h1).2 - 1), ⟨⟨v', by rw [en], by rw [sumC_set _ _ _ _ h1]; exact a2⟩, by rw [en]; simp [hl], ?_⟩, by simp [hn], ?_⟩
    · intro j hj hj2
      rw [sumC_set _ _ _ _ h1]
      by_cases e1 : i = j
      · subst e1
        simp only [en, List.getElem_set_self]
        exact a1
      · simp only [en, List.getElem_set_ne e1]
        have hj' : j < cs.length := by simpa using hj
        exact Y.mono _ _ _ _ _ (hH j hj' (by omega)) (by omega) (fun h1 => by omega)
    · intro j
      by_cases e1 : j = i
      · subst e1; rw [if_pos rfl]; simp [List.getD, h1]
      · rw [if_neg e1]; simp [List.getD, List.getElem?_set_ne (Ne.symm e1)]
  · have c0 : (cs[i]'h1).2 = 0 := by omega
    rw [c0] at hx
    obtain ⟨g, _, _⟩ := Y.halt _ _ _ hx
    have en : nextV s (i : Int) = s := by
      unfold nextV
      rw [if_neg]; rintro ⟨_, _, k⟩; rw [rdH s.2 i h2, g] at k; cases k
    refine ⟨cs, ⟨⟨v, by rw [en]; exact hm, hP⟩, by rw [en]; exact hl, by rw [en]; exact hH⟩, hn, ?_⟩
    intro j
    by_cases e1 : j = i
    · subst e1; rw [if_pos rfl]; simp [List.getD, h1, c0]
    · rw [if_neg e1]; exact Nat.le_refl _
theorem CInv_run {n t : Nat} {HS : Nat → Nat → Nat → Hh → Prop} {P : Nat → Int → Prop} {base : Int → List Int} (Y : CSys n t HS P base) : ∀ (o : List Int) (s : List Int × List Hh) (cs : List (Nat × Nat)), cs.length = n → CInv HS P base s cs → (∀ x, x ∈ o → 0 ≤ x ∧ x < (n : Int)) →
    ∃ cs', CInv HS P base (o.foldl nextV s) cs' ∧ cs'.length = n ∧ ∀ j, (cs'.getD j (0, 0)).2 ≤ (cs.getD j (0, 0)).2 - o.count (j : Int)
  | [], s, cs, hn, h, _ => ⟨cs, h, hn, fun j => by simp⟩
  | x :: o, s, cs, hn, h, ho => by
    have hx := ho x List.mem_cons_self
    obtain ⟨i, rfl⟩ : ∃ i : Nat, x = (i : Int) := ⟨x.toNat, by omega⟩
    obtain ⟨cs1, a1, a2, a3⟩ := CInv_next Y s cs hn h i (by omega)
    obtain ⟨cs2, b1, b2, b3⟩ := CInv_run Y o (nextV s (i : Int)) cs1 a2 a1 (fun x hx => ho x (List.mem_cons_of_mem _ hx))
    refine ⟨cs2, b1, b2, fun j => ?_⟩
    have := a3 j; have := b3 j
    rw [List.count_cons]
    by_cases e : j = i
    · subst e; simp only [beq_self_eq_true, if_true] at *; omega
    · have e2 : ((i : Int) == (j : Int)) = false := by rw [beq_eq_false_iff_ne]; omega
      rw [if_neg e] at *; simp only [e2, Bool.false_eq_true, if_false]; omega
/-- Everybody, in turn. -/
def turnL (n : Nat) : List Int := (List.range n).map (fun (i : Nat) => (i : Int))
def turnsL (n : Nat) : Nat → List Int
  | 0 => []
  | j + 1 => turnsL n j ++ turnL n
theorem turnL_mem (n : Nat) (x : Int) : x ∈ turnL n ↔ 0 ≤ x ∧ x < (n : Int) := by
  unfold turnL
  rw [List.mem_map]
  constructor
  · rintro ⟨a, h, rfl⟩; rw [List.mem_range] at h; omega
  · rintro ⟨h0, h1⟩; exact ⟨x.toNat, by rw [List.mem_range]; omega, by omega⟩
theorem turnsL_mem (n : Nat) (x : Int) : ∀ j, x ∈ turnsL n j → 0 ≤ x ∧ x < (n : Int)
  | 0, h => by simp [turnsL] at h
  | j + 1, h => by
    rw [turnsL, List.mem_append] at h
    rcases h with h | h
    · exact turnsL_mem n x j h
    · exact (turnL_mem n x).1 h
theorem turnsL_count (n i : Nat) (hi : i < n) : ∀ j, j ≤ (turnsL n j).count (i : Int)
  | 0 => Nat.zero_le _
  | j + 1 => by
    have h1 := turnsL_count n i hi j
    have h2 : 0 < (turnL n).count (i : Int) := List.count_pos_iff.2 ((turnL_mem n _).2 (by omega))
    rw [turnsL, List.count_append]; omega
theorem turnL_length (n : Nat) : (turnL n).length = n := by simp [turnL]
theorem turnsL_length (n : Nat) : ∀ j, (turnsL n j).length = j * n
  | 0 => by simp [turnsL]
  | j + 1 => by rw [turnsL, List.length_append, turnsL_length n j, turnL_length, Nat.succ_mul]
/-- What is drawn from the bytes. -/
theorem at_ex (l : List Int) (hl : l.length ≤ 1048576) (hb : ∀ x, x ∈ l → 0 ≤ x ∧ x ≤ 255) (i : Nat) (hi : i ≤ 1000) : ∃ v, laws_at.f l (i : Int) = some v ∧ 0 ≤ v := by
  unfold laws_at.f
  by_cases c : (i : Int) < (l.length : Int)
  · rw [if_pos c, if_pos (by omega)]
    have := hb _ (rd_mem l i (by omega))
    exact ⟨_, rfl, by rw [wrap_small (by omega) (by omega)]; exact this.1⟩
  · rw [if_neg c]
    rw [wrap_small (x := (i : Int) * 7) (by omega) (by omega), wrap_small (by omega) (by omega), tmod_pos _ _ (by omega)]
    exact ⟨_, rfl, by omega⟩
theorem bytes_of_wf {l : List Int} (h : ∀ x ∈ l, (Lit.int .u8 x).wf = true) : ∀ x, x ∈ l → 0 ≤ x ∧ x ≤ 255 := by
  intro x hx
  have := h x hx
  have e1 : IntKind.u8.min = 0 := by decide
  have e2 : IntKind.u8.max = 255 := by decide
  simp [Lit.wf, e1, e2] at this
  omega
theorem targetV_no (o i a b n : Int) (r : List Int) (h4 : o ≠ 4) (h5 : o ≠ 5) (h6 : o ≠ 6) : targetV o i a b n r = -1 := by
  unfold targetV; rw [if_neg]; rintro ⟨_, h, _⟩; omega
/-- A step, its Ins known. -/
theorem stepV_of (m : List Int) (h : Hh) (o i a b n : Int) (hd : decodeV (rd m h.f1) = (o, i, a, b, n, true)) (hi : insOkB o i a b n = true) (hg : goB h = true) (T G : Int) (hT : targetV o i a b n h.f0 = T) (hG : (if 0 ≤ T then rd m T else 0) = G) (hw : 0 ≤ G ∧ G ≤ 65535) :
    stepV m h = (if 0 ≤ (opV h.f0 h.f1 h.f2 o i a b n G).2.2.2 then m.set T.toNat (opV h.f0 h.f1 h.f2 o i a b n G).2.2.2 else m, ⟨(opV h.f0 h.f1 h.f2 o i a b n G).1, (opV h.f0 h.f1 h.f2 o i a b n G).2.1, (opV h.f0 h.f1 h.f2 o i a b n G).2.2.1⟩) := by
  have g2 : hartB h.f0 h.f1 h.f2 = true ∧ h.f2 = 0 := by
    unfold goB hB at hg; rw [Bool.and_eq_true] at hg; exact ⟨hg.1, by simpa using hg.2⟩
  have e1 : tgtV m h = T := by unfold tgtV; rw [hd]; exact hT
  have e2 : gotV m h = G := by unfold gotV; rw [hd]; dsimp only; rw [hT]; exact hG
  have e3 : wkV m h = opV h.f0 h.f1 h.f2 o i a b n G := by
    unfold wkV; rw [hd, e2]; unfold workV; dsimp only; rw [if_pos ⟨g2.1, g2.2, hw⟩, if_pos hi]
  unfold stepV; rw [e1, e3]
theorem goB_of (r0 r1 r2 r3 p : Int) (h0 : 0 ≤ r0 ∧ r0 ≤ 65535) (h1 : 0 ≤ r1 ∧ r1 ≤ 65535) (h2 : 0 ≤ r2 ∧ r2 ≤ 65535) (h3 : 0 ≤ r3 ∧ r3 ≤ 65535) (hp : 0 ≤ p ∧ p ≤ 23) : goB ⟨[r0, r1, r2, r3], p, 0⟩ = true := by
  unfold goB hB hartB wordsB; simp; omega
theorem decodeV_of (w o i a b n : Int) (hi : insOkB o i a b n = true) (hw : w = o + 16 * i + 64 * a + 256 * b + 1024 * n) : decodeV w = (o, i, a, b, n, true) := by
  obtain ⟨b0, b0', b1, b1', b2, b2', b3, b3', b4, b4'⟩ := insOkB_bounds hi
  unfold decodeV decodeB
  have e0 : w % 16 = o := by omega
  have e1 : w / 16 % 4 = i := by omega
  have e2 : w / 64 % 4 = a := by omega
  have e3 : w / 256 % 4 = b := by omega
  have e4 : w / 1024 = n := by omega
  rw [e0, e1, e2, e3, e4, hi, decide_eq_true (by omega : 0 ≤ w ∧ w ≤ 65535)]; rfl
/-- The memory, with v counted. -/
def baseL (t : Int) (v : Int) : List Int := [0, 0, 0, 1 + 1024 * t, 1041, 20708, 418, 21189, 266, 11271, 5128, 9, 0, 0, 0, 0, 0, 0, 0, 0, v, 0, 0, 0]
/-- Where a hart is: what it has stored, how many steps are left; what it holds is at most what all have stored. -/
inductive LHS (n t : Nat) : Nat → Nat → Nat → Hh → Prop
  | a0 (S) : LHS n t S 0 (6 * t + 2) ⟨[0, 0, 0, 0], 3, 0⟩
  | a1 (S) : LHS n t S 0 (6 * t + 1) ⟨[(t : Int), 0, 0, 0], 4, 0⟩
  | b (S j l : Nat) (r x : Int) (h : j < t) (hx : 0 ≤ x ∧ x ≤ 65535) (hr : r = (t : Int) - j) (hl : l = 6 * (t - j)) : LHS n t S j l ⟨[r, 1, x, 0], 5, 0⟩
  | c (S j l : Nat) (r x : Int) (h : j < t) (hx : 0 ≤ x ∧ x ≤ (S : Int) ∧ (n = 1 → x = (S : Int))) (hr : r = (t : Int) - j) (hl : l + 1 = 6 * (t - j)) : LHS n t S j l ⟨[r, 1, x, 0], 6, 0⟩
  | c2 (S j l : Nat) (r x : Int) (h : j < t) (hx : 1 ≤ x ∧ x ≤ (S : Int) + 1 ∧ (n = 1 → x = (S : Int) + 1)) (hr : r = (t : Int) - j) (hl : l + 2 = 6 * (t - j)) : LHS n t S j l ⟨[r, 1, x, 0], 7, 0⟩
  | c3 (S j l : Nat) (r x : Int) (h : j < t) (hx : 0 ≤ x ∧ x ≤ 65535) (hr : r = (t : Int) - j) (hl : l + 3 = 6 * (t - j)) : LHS n t S (j + 1) l ⟨[r, 1, x, 0], 8, 0⟩
  | d (S j l : Nat) (r x : Int) (h : j < t) (hx : 0 ≤ x ∧ x ≤ 65535) (hr : r = (t : Int) - j - 1) (hl : l + 4 = 6 * (t - j)) : LHS n t S (j + 1) l ⟨[r, 1, x, 0], 9, 0⟩
  | e (S j l : Nat) (r x : Int) (h : j + 1 < t) (hx : 0 ≤ x ∧ x ≤ 65535) (hr : r = (t : Int) - j - 1) (hl : l + 5 = 6 * (t - j)) : LHS n t S (j + 1) l ⟨[r, 1, x, 0], 10, 0⟩
  | f (S : Nat) (x : Int) (ht : 0 < t) (hx : 0 ≤ x ∧ x ≤ 65535) : LHS n t S t 1 ⟨[0, 1, x, 0], 11, 0⟩
  | h (S : Nat) (x : Int) : LHS n t S t 0 ⟨[0, 1, x, 0], 11, 1⟩
/-- What is counted, of so much that was stored. -/
def lP (n : Nat) (S : Nat) (v : Int) : Prop := 0 ≤ v ∧ v ≤ (S : Int) ∧ (0 < S → 1 ≤ v) ∧ (n = 1 → v = (S : Int))
theorem lsys (n t : Nat) (hn : n ≤ 3) (h1 : 1 ≤ t) (h5 : t ≤ 5) : CSys n t (LHS n t) (lP n) (baseL t) where
  halt := by
    intro S c h hh
    cases hh with
    | b j l r x hj hx hr hl => omega
    | c j l r x hj hx hr hl => omega
    | c2 j l r x hj hx hr hl => omega
    | c3 j l r x hj hx hr hl => omega
    | d j l r x hj hx hr hl => omega
    | e j l r x hj hx hr hl => omega
    | h x => exact ⟨by unfold goB; simp, rfl, rfl⟩
  mono := by
    intro S S' c l h hh hS h1
    cases hh with
    | a0 => exact .a0 _
    | a1 => exact .a1 _
    | b j l r x hj hx hr hl => exact .b _ _ _ _ _ hj hx hr hl
    | c j l r x hj hx hr hl => exact .c _ _ _ _ _ hj ⟨hx.1, by omega, fun e => by have := hx.2.2 e; have := h1 e; omega⟩ hr hl
    | c2 j l r x hj hx hr hl => exact .c2 _ _ _ _ _ hj ⟨hx.1, by omega, fun e => by have := hx.2.2 e; have := h1 e; omega⟩ hr hl
    | c3 j l r x hj hx hr hl => exact .c3 _ _ _ _ _ hj hx hr hl
    | d j l r x hj hx hr hl => exact .d _ _ _ _ _ hj hx hr hl
    | e j l r x hj hx hr hl => exact .e _ _ _ _ _ hj hx hr hl
    | f x ht hx => exact .f _ _ ht hx
    | h x => exact .h _ _
  le := by
    intro S c l h hh
    cases hh <;> omega
  step := by
    intro S c l h v hh hl hv hS
    obtain ⟨v0, v1, v2, v3⟩ := hv
    have hS' : (S : Int) ≤ 15 := by have : n * t ≤ 3 * 5 := Nat.mul_le_mul hn h5; omega
    have same : lP n (S + 0) v := ⟨v0, v1, v2, v3⟩
    cases hh with
    | a0 =>
      have hi : insOkB 1 0 0 0 (t : Int) = true := by unfold insOkB; simp; omega
      have hg := goB_of 0 0 0 0 3 (by omega) (by omega) (by omega) (by omega) (by omega)
      refine ⟨hg, 0, v, ⟨[(t : Int), 0, 0, 0], 4, 0⟩, ?_, ?_, same⟩
      · rw [stepV_of _ _ 1 0 0 0 (t : Int) (decodeV_of _ _ _ _ _ _ hi (by show 1 + 1024 * (t : Int) = _; omega)) hi hg (-1) 0 (targetV_no _ _ _ _ _ _ (by omega) (by omega) (by omega)) rfl (by omega)]; rfl
      · have := LHS.a1 (n := n) (t := t) S; exact this
    | a1 =>
      have hi : insOkB 1 1 0 0 1 = true := by decide
      have hg := goB_of (t : Int) 0 0 0 4 (by omega) (by omega) (by omega) (by omega) (by omega)
      refine ⟨hg, 0, v, ⟨[(t : Int), 1, 0, 0], 5, 0⟩, ?_, ?_, same⟩
      · rw [stepV_of _ _ 1 1 0 0 1 (decodeV_of _ _ _ _ _ _ hi rfl) hi hg (-1) 0 (targetV_no _ _ _ _ _ _ (by omega) (by omega) (by omega)) rfl (by omega)]; rfl
      · exact .b _ 0 _ _ _ (by omega) (by omega) (by omega) (by omega)
    | b j l r x hj hx hr hl =>
      have hi : insOkB 4 2 3 0 20 = true := by decide
      have hg := goB_of r 1 x 0 5 (by omega) (by omega) hx (by omega) (by omega)
      refine ⟨hg, 0, v, ⟨[r, 1, v, 0], 6, 0⟩, ?_, .c _ _ _ _ _ hj ⟨v0, v1, v3⟩ hr (by omega), same⟩
      rw [stepV_of _ _ 4 2 3 0 20 (decodeV_of _ _ _ _ _ _ hi rfl) hi hg 20 v (by unfold targetV; rw [if_pos ⟨hi, .inl rfl, rfl⟩]; have e : rd (⟨[r, 1, x, 0], 5, 0⟩ : Hh).f0 3 = 0 := rfl; rw [e, wrap_small (by omega) (by omega)]; rfl) rfl (by omega)]
      rfl
    | c j l r x hj hx hr hl =>
      have hi : insOkB 2 2 2 1 0 = true := by decide
      have hg := goB_of r 1 x 0 6 (by omega) (by omega) (by omega) (by omega) (by omega)
      refine ⟨hg, 0, v, ⟨[r, 1, x + 1, 0], 7, 0⟩, ?_, .c2 _ _ _ _ _ hj ⟨by omega, by omega, fun e => by have := hx.2.2 e; omega⟩ hr (by omega), same⟩
      rw [stepV_of _ _ 2 2 2 1 0 (decodeV_of _ _ _ _ _ _ hi rfl) hi hg (-1) 0 (targetV_no _ _ _ _ _ _ (by omega) (by omega) (by omega)) rfl (by omega)]
      have e : (opV [r, 1, x, 0] 6 0 2 2 2 1 0 0) = ([r, 1, (x + 1) % 65536, 0], 7, 0, -1) := rfl
      rw [e, show (x + 1) % 65536 = x + 1 by omega]; rfl
    | c2 j l r x hj hx hr hl =>
      have hi : insOkB 5 0 3 2 20 = true := by decide
      have hg := goB_of r 1 x 0 7 (by omega) (by omega) (by omega) (by omega) (by omega)
      refine ⟨hg, 1, x, ⟨[r, 1, x, 0], 8, 0⟩, ?_, .c3 _ _ _ _ _ hj (by omega) hr (by omega), ⟨by omega, by omega, fun _ => hx.1, fun e => by have := hx.2.2 e; omega⟩⟩
      rw [stepV_of _ _ 5 0 3 2 20 (decodeV_of _ _ _ _ _ _ hi rfl) hi hg 20 v (by unfold targetV; rw [if_pos ⟨hi, .inr (.inl rfl), rfl⟩]; have e : rd (⟨[r, 1, x, 0], 7, 0⟩ : Hh).f0 3 = 0 := rfl; rw [e, wrap_small (by omega) (by omega)]; rfl) rfl (by omega)]
      have e : (opV [r, 1, x, 0] 7 0 5 0 3 2 20 v) = ([r, 1, x, 0], 8, 0, x) := rfl
      rw [e]
      dsimp only
      rw [if_pos (by omega)]
      rfl
    | c3 j l r x hj hx hr hl =>
      have hi : insOkB 10 0 0 1 0 = true := by decide
      have hg := goB_of r 1 x 0 8 (by omega) (by omega) hx (by omega) (by omega)
      refine ⟨hg, 0, v, ⟨[r - 1, 1, x, 0], 9, 0⟩, ?_, .d _ j _ _ _ hj hx (by omega) (by omega), same⟩
      rw [stepV_of _ _ 10 0 0 1 0 (decodeV_of _ _ _ _ _ _ hi rfl) hi hg (-1) 0 (targetV_no _ _ _ _ _ _ (by omega) (by omega) (by omega)) rfl (by omega)]
      have e : (opV [r, 1, x, 0] 8 0 10 0 0 1 0 0) = ([(r - 1) % 65536, 1, x, 0], 9, 0, -1) := rfl
      rw [e, show (r - 1) % 65536 = r - 1 by omega]; rfl
    | d j l r x hj hx hr hl =>
      have hi : insOkB 7 0 0 0 11 = true := by decide
      have hg := goB_of r 1 x 0 9 (by omega) (by omega) hx (by omega) (by omega)
      have e : (opV [r, 1, x, 0] 9 0 7 0 0 0 11 0) = (if r = 0 then ([r, 1, x, 0], 11, 0, -1) else ([r, 1, x, 0], 10, 0, -1)) := rfl
      by_cases z : r = 0
      · have ej : j + 1 = t := by omega
        refine ⟨hg, 0, v, ⟨[0, 1, x, 0], 11, 0⟩, ?_, ?_, same⟩
        · rw [stepV_of _ _ 7 0 0 0 11 (decodeV_of _ _ _ _ _ _ hi rfl) hi hg (-1) 0 (targetV_no _ _ _ _ _ _ (by omega) (by omega) (by omega)) rfl (by omega)]
          rw [e, if_pos z, z]; rfl
        · rw [ej, show l - 1 = 1 by omega]; exact .f _ _ (by omega) hx
      · refine ⟨hg, 0, v, ⟨[r, 1, x, 0], 10, 0⟩, ?_, .e _ j _ _ _ (by omega) hx hr (by omega), same⟩
        rw [stepV_of _ _ 7 0 0 0 11 (decodeV_of _ _ _ _ _ _ hi rfl) hi hg (-1) 0 (targetV_no _ _ _ _ _ _ (by omega) (by omega) (by omega)) rfl (by omega)]
        rw [e, if_neg z]; rfl
    | e j l r x hj hx hr hl =>
      have hi : insOkB 8 0 0 0 5 = true := by decide
      have hg := goB_of r 1 x 0 10 (by omega) (by omega) hx (by omega) (by omega)
      refine ⟨hg, 0, v, ⟨[r, 1, x, 0], 5, 0⟩, ?_, .b _ (j + 1) _ _ _ (by omega) hx (by omega) (by omega), same⟩
      rw [stepV_of _ _ 8 0 0 0 5 (decodeV_of _ _ _ _ _ _ hi rfl) hi hg (-1) 0 (targetV_no _ _ _ _ _ _ (by omega) (by omega) (by omega)) rfl (by omega)]; rfl
    | f x ht hx =>
      have hi : insOkB 9 0 0 0 0 = true := by decide
      have hg := goB_of 0 1 x 0 11 (by omega) (by omega) hx (by omega) (by omega)
      refine ⟨hg, 0, v, ⟨[0, 1, x, 0], 11, 1⟩, ?_, .h _ _, same⟩
      rw [stepV_of _ _ 9 0 0 0 0 (decodeV_of _ _ _ _ _ _ hi rfl) hi hg (-1) 0 (targetV_no _ _ _ _ _ _ (by omega) (by omega) (by omega)) rfl (by omega)]; rfl
    | h x => omega
theorem FnLoses_rounds {t n : Nat} (h1 : 1 ≤ t ∧ t ≤ 5) (h2 : 1 ≤ n ∧ n ≤ 3) (l0 : List Int) (hl : l0.length ≤ 1048576) (hb : ∀ x, x ∈ l0 → 0 ≤ x ∧ x ≤ 255) (m : List Int) (k : Nat) (hk : 4000000 < k)
    (fin : ∀ (o : List Int) (k : Nat), 3000100 < k → o.length = 60 → (∀ x, x ∈ o → 0 ≤ x ∧ x < (n : Int)) → laws_FnLoses.l2 (k + 1) (t : Int) (n : Int) m (List.replicate n (⟨[0, 0, 0, 0], 3, 0⟩ : Hh)) (o ++ turnsL n 60) 60 = some true) :
    laws_FnLoses.l0 k l0 (t : Int) (n : Int) m [] 0 = some true := by
  have g3 : ∀ (o : List Int) (j k : Nat), 20 < k → o.length ≤ 1000 → laws_FnLoses.l3 k (t : Int) (n : Int) m (List.replicate n (⟨[0, 0, 0, 0], 3, 0⟩ : Hh)) o (j : Int) 0 = laws_FnLoses.l2 (k - (n + 1)) (t : Int) (n : Int) m (List.replicate n (⟨[0, 0, 0, 0], 3, 0⟩ : Hh)) (o ++ turnL n) (wrap64 ((j : Int) + 1)) := by
    intro o j k hk ho
    have s : ∀ i k, i ≤ n → laws_FnLoses.l3 (k + (n - i) + 1) (t : Int) (n : Int) m (List.replicate n (⟨[0, 0, 0, 0], 3, 0⟩ : Hh)) (o ++ (turnL n).take i) (j : Int) (i : Int) = laws_FnLoses.l2 k (t : Int) (n : Int) m (List.replicate n (⟨[0, 0, 0, 0], 3, 0⟩ : Hh)) (o ++ turnL n) (wrap64 ((j : Int) + 1)) := by
      intro i k hi
      induction hd : n - i generalizing i with
      | zero =>
        have : i = n := by omega
        subst this
        rw [laws_FnLoses.l3, if_neg (by omega), List.take_of_length_le (by rw [turnL_length]; omega)]
      | succ d ih =>
        rw [show k + (d + 1) + 1 = (k + d + 1) + 1 by omega, laws_FnLoses.l3, if_pos (by omega), if_pos (by rw [List.length_append, List.length_take, turnL_length]; omega), wrap_succ (by omega)]
        have e : o ++ (turnL n).take i ++ [(i : Int)] = o ++ (turnL n).take (i + 1) := by
          rw [List.append_assoc, ← snoc_step (turnL n) i (by rw [turnL_length]; omega)]
          simp [turnL]
        rw [e]
        exact ih (i + 1) (by omega) (by omega)
    have := s 0 (k - (n + 1)) (Nat.zero_le _)
    rw [show k - (n + 1) + (n - 0) + 1 = k by omega] at this
    simpa using this
  have g2 : ∀ (o : List Int), o.length = 60 → (∀ x, x ∈ o → 0 ≤ x ∧ x < (n : Int)) → ∀ (d j k : Nat), j + d = 60 → 3001000 < k → laws_FnLoses.l2 (k + 10 * d + 1) (t : Int) (n : Int) m (List.replicate n (⟨[0, 0, 0, 0], 3, 0⟩ : Hh)) (o ++ turnsL n j) (j : Int) = some true := by
    intro o ho hm d
    induction d with
    | zero =>
      intro j k hj hk
      obtain rfl : j = 60 := by omega
      exact fin o k (by omega) ho hm
    | succ d ih =>
      intro j k hj hk
      have hlen : (o ++ turnsL n j).length ≤ 1000 := by
        rw [List.length_append, turnsL_length]
        have : j * n ≤ 60 * 3 := Nat.mul_le_mul (by omega) h2.2
        omega
      rw [laws_FnLoses.l2, if_pos (by omega), g3 _ _ _ (by omega) hlen, wrap_succ (by omega), List.append_assoc]
      have := ih (j + 1) (k + 10 * (d + 1) - (n + 1) - 10 * d - 1) (by omega) (by omega)
      rw [show k + 10 * (d + 1) - (n + 1) - 10 * d - 1 + 10 * d + 1 = k + 10 * (d + 1) - (n + 1) by omega] at this
      exact this
  let f : Nat → Int := fun j => (laws_at.f l0 ((j : Int) + 3)).getD 0
  have hf : ∀ j : Nat, j < 60 → laws_at.f l0 ((j : Int) + 3) = some (f j) ∧ 0 ≤ f j := by
    intro j hj
    obtain ⟨v, e, hv⟩ := at_ex l0 hl hb (j + 3) (by omega)
    have e' : laws_at.f l0 ((j : Int) + 3) = some v := by rw [← e]; congr 1
    exact ⟨by show _ = some ((laws_at.f l0 ((j : Int) + 3)).getD 0); rw [e']; rfl, by show 0 ≤ (laws_at.f l0 ((j : Int) + 3)).getD 0; rw [e']; exact hv⟩
  have g1 : ∀ k, 3002000 < k → laws_FnLoses.l1 k l0 (t : Int) (n : Int) m (List.replicate n (⟨[0, 0, 0, 0], 3, 0⟩ : Hh)) [] 0 = some true := by
    intro k hk
    have h := for_stC 3001700 60 (fun k' i (s : List Int) => laws_FnLoses.l1 k' l0 (t : Int) (n : Int) m (List.replicate n (⟨[0, 0, 0, 0], 3, 0⟩ : Hh)) s (i : Int)) (fun i => (List.range i).map (fun (j : Nat) => f j % (n : Int))) true ?_ ?_ k 0 (Nat.zero_le _) (by omega)
    · simpa using h
    · intro k' i _ hi
      obtain ⟨e, h0⟩ := hf i hi
      rw [laws_FnLoses.l1, if_pos (by omega), wrap_small (x := (i : Int) + 3) (by omega) (by omega), e, Option.bind_some, if_neg (by omega), if_pos (by simp; omega), wrap_succ (by omega), tmod_pos _ _ h0, List.range_succ, List.map_append]
      rfl
    · intro k' hk'
      rw [laws_FnLoses.l1, if_neg (by omega)]
      have := g2 ((List.range 60).map (fun (j : Nat) => f j % (n : Int))) (by simp) (by
        intro x hx
        rw [List.mem_map] at hx
        obtain ⟨j, _, rfl⟩ := hx
        exact ⟨Int.emod_nonneg _ (by omega), Int.emod_lt_of_pos _ (by omega)⟩) 60 0 (k' - 601) (by omega) (by omega)
      rw [show k' - 601 + 10 * 60 + 1 = k' by omega] at this
      simpa [turnsL] using this
  have h := for_stC 3002100 n (fun k' i (s : List Hh) => laws_FnLoses.l0 k' l0 (t : Int) (n : Int) m s (i : Int)) (fun i => List.replicate i (⟨[0, 0, 0, 0], 3, 0⟩ : Hh)) true ?_ ?_ k 0 (Nat.zero_le _) (by omega)
  · simpa using h
  · intro k' i _ hi
    rw [laws_FnLoses.l0, if_pos (by omega), implHartNew_eq, Option.bind_some, if_pos (by simp; omega), wrap_succ (by omega), List.replicate_succ']
    rfl
  · intro k' hk'
    rw [laws_FnLoses.l0, if_neg (by omega)]
    exact g1 k' (by omega)
theorem placed_base (t : Nat) (h1 : 1 ≤ t ∧ t ≤ 5) : placeV (List.replicate 24 0) 3 (loseCodeW 20 (t : Int) 3) = (baseL t 0, true) := by
  have : t = 1 ∨ t = 2 ∨ t = 3 ∨ t = 4 ∨ t = 5 := by omega
  rcases this with rfl | rfl | rfl | rfl | rfl <;> decide +kernel
theorem coded_ok (t : Nat) (h1 : 1 ≤ t ∧ t ≤ 5) : codedB 20 (t : Int) 3 9 = true := by
  unfold codedB; simp; omega
theorem loses_inv (t n : Nat) (h1 : 1 ≤ t ∧ t ≤ 5) (h2 : 1 ≤ n ∧ n ≤ 3) (o : List Int) (ho : ∀ x, x ∈ o → 0 ≤ x ∧ x < (n : Int)) :
    ∃ v : Int, (runV (baseL t 0) (List.replicate n (⟨[0, 0, 0, 0], 3, 0⟩ : Hh)) (o ++ turnsL n 60)).1 = baseL t v ∧ lP n (n * t) v ∧ (runV (baseL t 0) (List.replicate n (⟨[0, 0, 0, 0], 3, 0⟩ : Hh)) (o ++ turnsL n 60)).2.length = n ∧ ∀ j, j < n → (rd_T31 (runV (baseL t 0) (List.replicate n (⟨[0, 0, 0, 0], 3, 0⟩ : Hh)) (o ++ turnsL n 60)).2 (j : Int)).f2 = 1 := by
  have Y := lsys n t h2.2 h1.1 h1.2
  have s0 : sumC (List.replicate n ((0, 6 * t + 2) : Nat × Nat)) = 0 := by
    rw [sumC_eq 0 _ (by intro i hi; simp)]; simp
  have i0 : CInv (LHS n t) (lP n) (baseL t) (baseL t 0, List.replicate n (⟨[0, 0, 0, 0], 3, 0⟩ : Hh)) (List.replicate n ((0, 6 * t + 2) : Nat × Nat)) := by
    refine ⟨⟨0, rfl, by rw [s0]; exact ⟨by omega, by omega, fun h => by omega, fun _ => rfl⟩⟩, by simp, ?_⟩
    intro i h h2
    simp only [List.getElem_replicate]
    exact .a0 _
  obtain ⟨cs, ⟨⟨v, a1, a2⟩, a3, a4⟩, a5, a6⟩ := CInv_run Y (o ++ turnsL n 60) (baseL t 0, List.replicate n (⟨[0, 0, 0, 0], 3, 0⟩ : Hh)) _ (by simp) i0 (by
    intro x hx
    rw [List.mem_append] at hx
    rcases hx with hx | hx
    · exact ho x hx
    · exact turnsL_mem n x _ hx)
  have z : ∀ i (h : i < cs.length), (cs[i]'h).2 = 0 := by
    intro i h
    have b := a6 i
    have c := turnsL_count n i (by omega) 60
    rw [List.count_append] at b
    have e1 : (cs.getD i (0, 0)).2 = (cs[i]'h).2 := by simp [List.getD, h]
    have e2 : ((List.replicate n ((0, 6 * t + 2) : Nat × Nat)).getD i (0, 0)).2 = 6 * t + 2 := by simp [List.getD, show i < n by omega]
    rw [e1, e2] at b
    omega
  have fin : ∀ i (h : i < cs.length) (h2 : i < (runV (baseL t 0) (List.replicate n (⟨[0, 0, 0, 0], 3, 0⟩ : Hh)) (o ++ turnsL n 60)).2.length), ((runV (baseL t 0) (List.replicate n (⟨[0, 0, 0, 0], 3, 0⟩ : Hh)) (o ++ turnsL n 60)).2[i]'h2).f2 = 1 ∧ (cs[i]'h).1 = t := by
    intro i h h2
    have q := a4 i h h2
    rw [z i h] at q
    obtain ⟨_, q1, q2⟩ := Y.halt _ _ _ q
    exact ⟨q1, q2⟩
  have hlen : (runV (baseL t 0) (List.replicate n (⟨[0, 0, 0, 0], 3, 0⟩ : Hh)) (o ++ turnsL n 60)).2.length = cs.length := a3
  have hs : sumC cs = n * t := by rw [sumC_eq t cs (fun i h => (fin i h (by omega)).2), a5]
  refine ⟨v, ?_, by rw [← hs]; exact a2, by omega, ?_⟩
  · show ((o ++ turnsL n 60).foldl nextV (baseL t 0, List.replicate n (⟨[0, 0, 0, 0], 3, 0⟩ : Hh))).1 = _
    rw [a1]
  · intro j hj
    rw [rdH _ j (by omega)]
    exact (fin j (by omega) (by omega)).1
theorem loses_fin (t n : Nat) (h1 : 1 ≤ t ∧ t ≤ 5) (h2 : 1 ≤ n ∧ n ≤ 3) (o : List Int) (k : Nat) (hk : 3000100 < k) (hl : o.length = 60) (ho : ∀ x, x ∈ o → 0 ≤ x ∧ x < (n : Int)) :
    laws_FnLoses.l2 (k + 1) (t : Int) (n : Int) (baseL t 0) (List.replicate n (⟨[0, 0, 0, 0], 3, 0⟩ : Hh)) (o ++ turnsL n 60) 60 = some true := by
  obtain ⟨v, a1, ⟨b1, b2, b3, b4⟩, a2, a3⟩ := loses_inv t n h1 h2 o ho
  have hlen : (o ++ turnsL n 60).length ≤ 2000 := by rw [List.length_append, turnsL_length]; omega
  have hw : wordsB (baseL t 0) 24 = true := by unfold wordsB baseL; simp; omega
  have hsh : shortH (List.replicate n (⟨[0, 0, 0, 0], 3, 0⟩ : Hh)) := by
    intro h hh; rw [List.eq_of_mem_replicate hh]; show 4 ≤ _; omega
  rw [laws_FnLoses.l2, if_neg (by omega), implFlatRun_eq _ _ _ (by show 24 ≤ _; omega) (by simp; omega) hsh k (by omega), if_pos ⟨hlen, hw⟩, Option.bind_some]
  generalize runV (baseL t 0) (List.replicate n (⟨[0, 0, 0, 0], 3, 0⟩ : Hh)) (o ++ turnsL n 60) = s at a1 a2 a3 ⊢
  rw [implAllHalt_eq s.2 (by omega) k (by omega) (q := true) ⟨fun _ => ⟨fun j hj => a3 j (by omega), by simp; omega⟩, fun _ => rfl⟩, Option.bind_some, if_pos rfl, a1, if_pos (by show (20 : Int) < 24; omega)]
  have e : rd (baseL t v) 20 = v := rfl
  have hnt : n * t ≤ 3 * 5 := Nat.mul_le_mul h2.2 h1.2
  have hpos : 0 < n * t := Nat.mul_pos (by omega) (by omega)
  rw [e, if_pos (b3 hpos), show (n : Int) * (t : Int) = ((n * t : Nat) : Int) by simp, wrap_small (by omega) (by omega), if_pos b2]
  by_cases c : (n : Int) > 1
  · rw [if_pos c]
  · have hn1 : n = 1 := by omega
    rw [if_neg c, b4 hn1, hn1]; simp
theorem FnLoses : laws_FnLoses.Pure := by
  intro l0 _ _ hwf
  have hb := bytes_of_wf hwf
  obtain ⟨K, hK⟩ : ∃ K : Nat, 5000000 ≤ K := ⟨_, Nat.le_refl _⟩
  refine ⟨K + 1, ?_⟩
  unfold laws_FnLoses.f laws_big.f
  rw [Option.bind_some]
  by_cases hbig : (l0.length : Int) > 1048576
  · rw [decide_eq_true hbig, if_pos rfl]
  rw [decide_eq_false hbig, if_neg (by simp)]
  obtain ⟨v1, e1, p1⟩ := at_ex l0 (by omega) hb 1 (by omega)
  obtain ⟨v2, e2, p2⟩ := at_ex l0 (by omega) hb 2 (by omega)
  have e1' : laws_at.f l0 1 = some v1 := e1
  have e2' : laws_at.f l0 2 = some v2 := e2
  rw [e1', Option.bind_some, e2', Option.bind_some, tmod_pos _ _ p1, tmod_pos _ _ p2, wrap_small (x := 1 + v1 % 5) (by omega) (by omega), wrap_small (x := 1 + v2 % 3) (by omega) (by omega)]
  obtain ⟨t, ht⟩ : ∃ t : Nat, 1 + v1 % 5 = (t : Int) := ⟨(1 + v1 % 5).toNat, by omega⟩
  obtain ⟨n, hn⟩ : ∃ n : Nat, 1 + v2 % 3 = (n : Int) := ⟨(1 + v2 % 3).toNat, by omega⟩
  have h1 : 1 ≤ t ∧ t ≤ 5 := by omega
  have h2 : 1 ≤ n ∧ n ≤ 3 := by omega
  rw [ht, hn, implLoseCode_eq _ _ _ _ (by omega), Option.bind_some, specLoseCode_eq _ _ _ _ (by omega), Option.bind_some, coded_ok t h1, bne_self_eq_false, if_neg (by simp), Bool.not_true, laws_FnLoses.j0, if_neg (by simp), if_pos (by omega)]
  rw [implPlace_eq _ _ _ (by simp) (Nat.le_trans (loseCodeW_length 20 (t : Int) 3) (by omega)) K (by omega), Option.bind_some, placed_base t h1, if_pos rfl]
  exact FnLoses_rounds h1 h2 l0 (by omega) hb _ K (by omega) (fun o k hk hl ho => loses_fin t n h1 h2 o k hk hl ho)
end Go.Proofs.Ytddncenhddiemaa.Pure
