/- For all bytes: the parts that are drawn from them lie one behind the other, and none over another one, by the program as by the reference: no conditions. -/
import Derived.Test.YtnekcbajadnldaaPFnLayoutsx11
namespace Go.Proofs.Ytnekcbajadnldaa.Pure
open Go.RowKit Go.Proofs.Ytnekcbajadnldaa.PFnLayouts Go.Proofs.YtnekcbajadnldaaW.PrintWords Go.Proofs.YtnekcbajadnldaaW.PrintLast
set_option linter.unusedVariables false
set_option linter.unusedSimpArgs false

theorem wrap_small {x : Int} (h0 : -9223372036854775808 ≤ x) (h : x ≤ 9223372036854775807) : wrap64 x = x := by
  unfold wrap64; omega
theorem wrap_succ {i : Nat} (h : i < 4611686018427387904) : wrap64 ((i : Int) + 1) = ((i + 1 : Nat) : Int) := by
  unfold wrap64; omega
theorem rd_nat (l : List Int) (i : Nat) (h : i < l.length) : rd l (i : Int) = l[i] := by
  unfold rd; simp [List.getD, h]
theorem rd_mem (l : List Int) (i : Nat) (h : i < l.length) : rd l (i : Int) ∈ l := by
  rw [rd_nat l i h]; exact List.getElem_mem h
/-- A loop whose state is known ahead of each round. -/
theorem for_st {σ ρ : Type} (n : Nat) (L : Nat → Nat → σ → Option ρ) (st : Nat → σ) (r : ρ) (hs : ∀ k i, i < n → L (k + 1) i (st i) = L k (i + 1) (st (i + 1))) (he : ∀ k, L (k + 1) n (st n) = some r) :
    ∀ (k i : Nat), i ≤ n → n < i + k → L k i (st i) = some r
  | 0, i, hi, hk => by omega
  | k + 1, i, hi, hk => by
    by_cases h : i < n
    · rw [hs k i h]; exact for_st n L st r hs he k (i + 1) (by omega) (by omega)
    · have : i = n := by omega
      subst this; exact he k
/-- A loop that ends at the first place where p holds. -/
theorem for_find {ρ : Type} (n : Nat) (L : Nat → Nat → Option ρ) (p : Nat → Prop) (b : Nat → ρ) (r : ρ) (hs : ∀ k i, i < n → ¬ p i → L (k + 1) i = L k (i + 1)) (hb : ∀ k i, i < n → p i → L (k + 1) i = some (b i)) (he : ∀ k, L (k + 1) n = some r) :
    ∀ (k i : Nat), i ≤ n → n < i + k → (∃ j, i ≤ j ∧ j < n ∧ p j ∧ (∀ m, i ≤ m → m < j → ¬ p m) ∧ L k i = some (b j)) ∨ (∀ j, i ≤ j → j < n → ¬ p j) ∧ L k i = some r
  | 0, i, hi, hk => by omega
  | k + 1, i, hi, hk => by
    by_cases h : i < n
    · by_cases hp : p i
      · exact .inl ⟨i, Nat.le_refl _, h, hp, fun m h1 h2 => by omega, hb k i h hp⟩
      · rw [hs k i h hp]
        rcases for_find n L p b r hs hb he k (i + 1) (by omega) (by omega) with ⟨j, h1, h2, h3, h4, h5⟩ | ⟨h1, h2⟩
        · refine .inl ⟨j, by omega, h2, h3, fun m hm1 hm2 => ?_, h5⟩
          by_cases e : m = i
          · subst e; exact hp
          · exact h4 m (by omega) hm2
        · refine .inr ⟨fun j hj1 hj2 => ?_, h2⟩
          by_cases e : j = i
          · subst e; exact hp
          · exact h1 j (by omega) hj2
    · have : i = n := by omega
      subst this; exact .inr ⟨fun j h1 h2 => by omega, he k⟩
/-- The same for a Bool: do all places pass? -/
theorem for_all {n : Nat} {L : Nat → Nat → Option Bool} (p : Nat → Prop) (hs : ∀ k i, i < n → p i → L (k + 1) i = L k (i + 1)) (hb : ∀ k i, i < n → ¬ p i → L (k + 1) i = some false) (c : Bool) (he : ∀ k, L (k + 1) n = some c) {q : Bool}
    (hq : q = true ↔ (∀ j, j < n → p j) ∧ c = true) (k : Nat) (hk : n < k) : L k 0 = some q := by
  rcases for_find n L (fun i => ¬ p i) (fun _ => false) c (fun k i h hp => hs k i h (Classical.not_not.1 hp)) (fun k i h hp => hb k i h hp) he k 0 (Nat.zero_le _) (by omega) with ⟨j, _, h2, h3, _, h5⟩ | ⟨h1, h2⟩
  · rw [h5]; congr 1; symm
    rw [Bool.eq_false_iff]; intro hh; exact h3 ((hq.1 hh).1 j h2)
  · rw [h2]; congr 1
    have : ∀ j, j < n → p j := fun j hj => Classical.not_not.1 (h1 j (Nat.zero_le _) hj)
    rw [Bool.eq_iff_iff, hq]; exact ⟨fun h => ⟨this, h⟩, fun h => h.2⟩
/-- What is written, place by place. -/
theorem set_step {α : Type} (a b : List α) (i : Nat) (hi : i < a.length) (hb : b.length = a.length) : (a.take i ++ b.drop i).set i (a[i]'hi) = a.take (i + 1) ++ b.drop (i + 1) := by
  rw [List.set_append_right _ _ (by simp; omega), List.length_take, Nat.min_eq_left (by omega), Nat.sub_self, List.take_succ_eq_append_getElem hi, List.append_assoc]
  congr 1
  rw [List.drop_eq_getElem_cons (by omega)]
  rfl
theorem snoc_step {α : Type} (a : List α) (i : Nat) (hi : i < a.length) : a.take i ++ [a[i]'hi] = a.take (i + 1) := by
  rw [List.take_succ_eq_append_getElem hi]
theorem eq_iff_all (a b : List Int) (h : a.length = b.length) : a = b ↔ ∀ j, j < a.length → rd a (j : Int) = rd b (j : Int) := by
  constructor
  · rintro rfl j _; rfl
  · intro hh; refine List.ext_getElem h (fun j h1 h2 => ?_)
    have := hh j h1
    rwa [rd_nat a j h1, rd_nat b j h2] at this
/-- What marks hold: s, s + 1, .. -/
def iota (s : Int) (n : Nat) : List Int := (List.range n).map fun (i : Nat) => s + (i : Int)
theorem iota_length (s : Int) (n : Nat) : (iota s n).length = n := by simp [iota]
theorem iota_get (s : Int) (n i : Nat) (h : i < n) : (iota s n)[i]'(by rw [iota_length]; exact h) = s + i := by simp [iota]
/-- The same as bytes. -/
def iota8 (s : Int) (n : Nat) : List Int := (List.range n).map fun (i : Nat) => (s + (i : Int)) % 256
theorem iota8_length (s : Int) (n : Nat) : (iota8 s n).length = n := by simp [iota8]
theorem iota8_get (s : Int) (n i : Nat) (h : i < n) : (iota8 s n)[i]'(by rw [iota8_length]; exact h) = (s + i) % 256 := by simp [iota8]
theorem wraps_i64 (n : Int) (h0 : 0 ≤ n) (h1 : n < 2 ^ 62) : IntKind.i64.wrap n = n := by rw [IntKind.wrap_i64]; omega
theorem and255 (x : Int) (h0 : 0 ≤ x) (h : x ≤ 65535) : Go.bits .and .i64 x 255 = x % 256 := bits_mask .i64 62 (by decide) wraps_i64 8 (by decide) x h0 (by omega)
/-- Does a search find something. -/
theorem idx_any {n : Nat} (L : Nat → Nat → Option Int) (q : Nat → Bool) (hs : ∀ k i, i < n → q i = false → L (k + 1) i = L k (i + 1)) (hb : ∀ k i, i < n → q i = true → L (k + 1) i = some (i : Int)) (he : ∀ k, L (k + 1) n = some (-1)) (r : Bool)
    (hr : r = true ↔ ∃ j, j < n ∧ q j = true) (k : Nat) (hk : n < k) : ∃ v, L k 0 = some v ∧ decide (v ≥ 0) = r := by
  rcases for_find n L (fun i => q i = true) (fun i => (i : Int)) (-1) (fun k i h hp => hs k i h (by simpa using hp)) hb he k 0 (Nat.zero_le _) (by omega) with ⟨j, _, h2, h3, _, h5⟩ | ⟨h1, h2⟩
  · refine ⟨_, h5, ?_⟩
    rw [decide_eq_true (by omega : (j : Int) ≥ 0)]; exact (hr.2 ⟨j, h2, h3⟩).symm
  · refine ⟨_, h2, ?_⟩
    rw [decide_eq_false (by omega : ¬ (-1 : Int) ≥ 0)]; symm; rw [Bool.eq_false_iff]; intro hh
    obtain ⟨j, hj, hq⟩ := hr.1 hh
    exact h1 j (Nat.zero_le _) hj hq
/-- A count that goes down, item by item, and stops below nothing. -/
theorem sz_loop {n C : Nat} {M : Int} (L : Nat → Nat → Int → Option Int) (P : Nat → Prop) (hs : ∀ k i a, i < n → C ≤ k → 0 ≤ a → a ≤ M → (∃ r, r < 0 ∧ L (k + 1) i a = some r) ∨ ∃ t, 0 ≤ t ∧ t ≤ a ∧ P i ∧ L (k + 1) i a = L k (i + 1) t)
    (he : ∀ k a, L (k + 1) n a = some a) : ∀ (m i : Nat) (a : Int), i ≤ n → n < i + m → 0 ≤ a → a ≤ M → ∃ r, L (m + C) i a = some r ∧ r ≤ a ∧ (0 ≤ r → ∀ j, i ≤ j → j < n → P j)
  | 0, i, a, hi, hm, _, _ => by omega
  | m + 1, i, a, hi, hm, h0, h1 => by
    rw [show m + 1 + C = (m + C) + 1 by omega]
    by_cases h : i < n
    · rcases hs (m + C) i a h (by omega) h0 h1 with ⟨r, hr, e⟩ | ⟨t, ht0, ht, hp, e⟩
      · exact ⟨r, e, by omega, fun h => by omega⟩
      · obtain ⟨r, e2, hr, hq⟩ := sz_loop L P hs he m (i + 1) t (by omega) (by omega) ht0 (by omega)
        refine ⟨r, by rw [e, e2], by omega, fun h0 j hj1 hj2 => ?_⟩
        by_cases c : j = i
        · subst c; exact hp
        · exact hq h0 j (by omega) hj2
    · have : i = n := by omega
      subst this
      exact ⟨a, he _ _, Int.le_refl _, fun _ j h1 h2 => by omega⟩
/-- A list made place by place. -/
theorem to_loop {α : Type} {C : Nat} (v z : List α) (hz : z.length = v.length) (L : Nat → Nat → List α → Option (List α)) (hs : ∀ k i s (hi : i < v.length), C ≤ k → s.length = v.length → L (k + 1) i s = L k (i + 1) (s.set i (v[i]'hi)))
    (he : ∀ k s, L (k + 1) v.length s = some s) (k : Nat) (hk : v.length + C < k) : L k 0 z = some v := by
  have h := for_st v.length (fun k' i (s : List α) => L (k' + C) i s) (fun i => v.take i ++ z.drop i) v ?_ ?_ (k - C) 0 (Nat.zero_le _) (by omega)
  · rw [show k - C + C = k by omega] at h; simpa using h
  · intro k' i hi
    rw [show k' + 1 + C = (k' + C) + 1 by omega, hs _ _ _ hi (by omega) (by simp; omega), set_step _ _ _ hi hz]
  · intro k'
    rw [show k' + 1 + C = (k' + C) + 1 by omega, he, List.take_of_length_le (Nat.le_refl _), List.drop_of_length_le (by omega), List.append_nil]
/-- Equal, place by place. -/
theorem same_loop {n C : Nat} (L : Nat → Nat → Option Bool) (hs : ∀ k i, i < n → C ≤ k → L (k + 1) i = L k (i + 1)) (he : ∀ k, L (k + 1) n = some true) (k : Nat) (hk : n + C < k) : L k 0 = some true := by
  have h := for_st n (fun k' i (_ : Unit) => L (k' + C) i) (fun _ => ()) true ?_ ?_ (k - C) 0 (Nat.zero_le _) (by omega)
  · rw [show k - C + C = k by omega] at h; exact h
  · intro k' i hi; rw [show k' + 1 + C = (k' + C) + 1 by omega, hs _ _ hi (by omega)]
  · intro k'; rw [show k' + 1 + C = (k' + C) + 1 by omega, he]
def wordsB (l : List Int) (n : Int) : Bool := decide ((l.length : Int) = n) && l.all (fun x => decide (0 ≤ x ∧ x ≤ 65535))
theorem wordsB_mem {l : List Int} {n : Int} (h : wordsB l n = true) (x : Int) (hx : x ∈ l) : 0 ≤ x ∧ x ≤ 65535 := by
  unfold wordsB at h; rw [Bool.and_eq_true, List.all_eq_true] at h; exact of_decide_eq_true (h.2 x hx)
/-- Is it a hart: four words, a cell, a state. -/
def hartB (regs : List Int) (pc st : Int) : Bool := wordsB regs 4 && (decide (0 ≤ pc ∧ pc ≤ 23) && decide (0 ≤ st ∧ st ≤ 2))
theorem ite_some' (b c : Bool) : (if b = true then some c else some false) = some (b && c) := by cases b <;> rfl
theorem hartB_len {r : List Int} {p s : Int} (h : hartB r p s = true) : r.length = 4 := by
  unfold hartB wordsB at h; rw [Bool.and_eq_true, Bool.and_eq_true] at h; have := of_decide_eq_true h.1.1; omega
theorem wordsB_24 {l : List Int} (h : wordsB l 24 = true) : l.length = 24 := by unfold wordsB at h; rw [Bool.and_eq_true] at h; have := of_decide_eq_true h.1; omega
theorem tmod_pos (n c : Int) (h : 0 ≤ n) : Int.tmod n c = n % c := Int.tmod_eq_emod_of_nonneg h
theorem tmod_neg (n c : Int) (h : n < 0) : Int.tmod n c = -((-n) % c) := by
  rw [← Int.tmod_eq_emod_of_nonneg (by omega : 0 ≤ -n), Int.neg_tmod, Int.neg_neg]
theorem tdiv_pos (n c : Int) (h : 0 ≤ n) : Int.tdiv n c = n / c := Int.tdiv_eq_ediv_of_nonneg h
/-- A remainder brought up from below nothing. -/
theorem tmod_up (n c : Int) (hc : 0 < c) (hb : c ≤ 4294967296) : Int.tmod (Int.tmod n c + c) c = n % c := by
  have h1 := Int.emod_nonneg n (by omega : c ≠ 0)
  have h2 := Int.emod_lt_of_pos n hc
  rcases Int.lt_or_le n 0 with h | h
  · rw [tmod_neg n c h]
    have h3 := Int.emod_nonneg (-n) (by omega : c ≠ 0)
    have h4 := Int.emod_lt_of_pos (-n) hc
    rw [tmod_pos _ _ (by omega), Int.add_emod_right, ← Int.sub_emod_right]
    have := Int.emod_add_mul_ediv (-n) c
    have e : -(-n % c) - c = n + c * ((-n) / c - 1) := by
      have : n = -(-n % c) - c * ((-n) / c) := by omega
      rw [Int.mul_sub]; omega
    rw [e, Int.add_mul_emod_self_left]
  · rw [tmod_pos n c h, tmod_pos _ _ (by omega), Int.add_emod_right, Int.emod_emod_of_dvd _ (Int.dvd_refl c)]
theorem tmod_bd (n c : Int) (hc : 0 < c) : -c < Int.tmod n c ∧ Int.tmod n c < c := by
  rcases Int.lt_or_le n 0 with h | h
  · rw [tmod_neg n c h]
    have h3 := Int.emod_nonneg (-n) (by omega : c ≠ 0)
    have h4 := Int.emod_lt_of_pos (-n) hc
    omega
  · rw [tmod_pos n c h]
    have h3 := Int.emod_nonneg n (by omega : c ≠ 0)
    have h4 := Int.emod_lt_of_pos n hc
    omega
/-- for_st, where some rounds stay over. -/
theorem for_stC {σ ρ : Type} (C n : Nat) (L : Nat → Nat → σ → Option ρ) (st : Nat → σ) (r : ρ) (hs : ∀ k i, C ≤ k → i < n → L (k + 1) i (st i) = L k (i + 1) (st (i + 1))) (he : ∀ k, C ≤ k → L (k + 1) n (st n) = some r) :
    ∀ (k i : Nat), i ≤ n → n + C < i + k → L k i (st i) = some r
  | 0, i, hi, hk => by omega
  | k + 1, i, hi, hk => by
    by_cases h : i < n
    · rw [hs k i (by omega) h]; exact for_stC C n L st r hs he k (i + 1) (by omega) (by omega)
    · have : i = n := by omega
      subst this; exact he k (by omega)
theorem l1In_eq (x lo hi : Int) : spec_l1In.f x lo hi = some (decide (lo ≤ x ∧ x ≤ hi)) := by
  unfold spec_l1In.f
  by_cases h : x ≥ lo
  · rw [if_pos h]; have h' : lo ≤ x := h; simp [h']
  · rw [if_neg h]; have h' : ¬ lo ≤ x := h; simp [h']
theorem from_eq (x lo hi : Int) : impl_from.f x lo hi = some (decide (lo ≤ x ∧ x ≤ hi)) := by
  unfold impl_from.f
  by_cases h : x ≥ lo
  · rw [if_pos h]; have h' : lo ≤ x := h; simp [h']
  · rw [if_neg h]; have h' : ¬ lo ≤ x := h; simp [h']
theorem insOkB_bounds {o r a b n : Int} (h : insOkB o r a b n = true) : 1 ≤ o ∧ o ≤ 10 ∧ 0 ≤ r ∧ r ≤ 3 ∧ 0 ≤ a ∧ a ≤ 3 ∧ 0 ≤ b ∧ b ≤ 3 ∧ 0 ≤ n ∧ n ≤ 63 := by
  unfold insOkB at h
  simp only [Bool.and_eq_true, decide_eq_true_eq] at h
  obtain ⟨h0, ⟨h1, h1'⟩, ⟨h2, h2'⟩, ⟨h3, h3'⟩, ⟨h4, h4'⟩⟩ := h
  refine ⟨?_, ?_, h1, h1', h2, h2', h3, h3', h4, h4'⟩
  · by_cases c : 1 ≤ o
    · exact c
    · exfalso
      rw [if_neg (by omega), if_neg (by omega), if_neg (by omega), if_neg (by omega), if_neg (by omega), if_neg (by omega), if_neg (by omega), if_neg (by omega), if_neg (by omega), if_neg (by omega)] at h0
      cases h0
  · by_cases c : o ≤ 10
    · exact c
    · exfalso
      rw [if_neg (by omega), if_neg (by omega), if_neg (by omega), if_neg (by omega), if_neg (by omega), if_neg (by omega), if_neg (by omega), if_neg (by omega), if_neg (by omega), if_neg (by omega)] at h0
      cases h0
theorem ite_some (b c : Bool) : (if b = true then some c else some false) = some (b && c) := by cases b <;> rfl
theorem l8Field_eq (x m : Int) (h : Bool) : spec_l8Field.f x m h = some (decide (0 ≤ x ∧ x ≤ m) && (h || decide (x = 0))) := by
  unfold spec_l8Field.f
  rw [l1In_eq, Option.bind_some]
  have e : (x == 0) = decide (x = 0) := rfl
  rw [e]
  cases h <;> simp only [if_true, Bool.false_eq_true, if_false, Bool.true_or, Bool.false_or, ite_some]
theorem specInsOk_eq (o r a b n : Int) : spec_InsOk.f o r a b n = some (insOkB o r a b n) := by
  unfold spec_InsOk.f spec_l8Has.f
  simp only [l1In_eq, l8Field_eq, Option.bind_some, ite_some]
  by_cases ho : 1 ≤ o ∧ o ≤ 10
  · have hc : o = 1 ∨ o = 2 ∨ o = 3 ∨ o = 4 ∨ o = 5 ∨ o = 6 ∨ o = 7 ∨ o = 8 ∨ o = 9 ∨ o = 10 := by omega
    rw [decide_eq_true ho]
    rcases hc with rfl | rfl | rfl | rfl | rfl | rfl | rfl | rfl | rfl | rfl <;>
      (simp only [if_true, Option.bind_some, List.length_cons, List.length_nil]
       rw [if_pos (by omega), if_pos (by omega)]
       simp only [rd, Option.bind_some, Bool.true_and]
       congr 1
       rw [Bool.eq_iff_iff]
       simp [insOkB, show Go.bits .and .i64 0 1 = 0 by decide, show Go.bits .and .i64 0 2 = 0 by decide, show Go.bits .and .i64 0 4 = 0 by decide, show Go.bits .and .i64 0 8 = 0 by decide,
        show Go.bits .and .i64 7 1 = 1 by decide, show Go.bits .and .i64 7 2 = 2 by decide, show Go.bits .and .i64 7 4 = 4 by decide, show Go.bits .and .i64 7 8 = 0 by decide,
        show Go.bits .and .i64 8 1 = 0 by decide, show Go.bits .and .i64 8 2 = 0 by decide, show Go.bits .and .i64 8 4 = 0 by decide, show Go.bits .and .i64 8 8 = 8 by decide,
        show Go.bits .and .i64 9 1 = 1 by decide, show Go.bits .and .i64 9 2 = 0 by decide, show Go.bits .and .i64 9 4 = 0 by decide, show Go.bits .and .i64 9 8 = 8 by decide,
        show Go.bits .and .i64 10 1 = 0 by decide, show Go.bits .and .i64 10 2 = 2 by decide, show Go.bits .and .i64 10 4 = 0 by decide, show Go.bits .and .i64 10 8 = 8 by decide,
        show Go.bits .and .i64 11 1 = 1 by decide, show Go.bits .and .i64 11 2 = 2 by decide, show Go.bits .and .i64 11 4 = 0 by decide, show Go.bits .and .i64 11 8 = 8 by decide,
        show Go.bits .and .i64 14 1 = 0 by decide, show Go.bits .and .i64 14 2 = 2 by decide, show Go.bits .and .i64 14 4 = 4 by decide, show Go.bits .and .i64 14 8 = 8 by decide,
        show Go.bits .and .i64 15 1 = 1 by decide, show Go.bits .and .i64 15 2 = 2 by decide, show Go.bits .and .i64 15 4 = 4 by decide, show Go.bits .and .i64 15 8 = 8 by decide]
       try omega)
  · have hn : ∀ c, 1 ≤ c → c ≤ 10 → o ≠ c := fun c h1 h2 e => ho (by omega)
    simp [ho, insOkB, hn]
theorem rdPart (l : List S45) (i : Nat) (h : i < l.length) : rd_T45 l (i : Int) = l[i] := by
  unfold rd_T45; simp [List.getD, h]
theorem specPartAt_eq (l : List S45) (a : ByteArray) (hl : l.length ≤ 1048576) (k : Nat) (hk : l.length < k) : spec_PartAt.f k l a = some (partIdx a l 0) := by
  unfold spec_PartAt.f
  have h : ∀ k i : Nat, i ≤ l.length → l.length < i + k → spec_PartAt.l0 k l a (i : Int) = some (partIdx a (l.drop i) i) := by
    intro k
    induction k with
    | zero => intro i h1 h2; omega
    | succ k ih =>
      intro i h1 h2
      rw [spec_PartAt.l0]
      by_cases hi : i < l.length
      · rw [if_pos (by omega), if_pos (by omega), partIdx_drop a l i hi]
        by_cases hn : (rd_T45 l (i : Int)).f0.toList = a.toList
        · rw [if_pos hn, if_pos hn]
        · rw [if_neg hn, if_neg hn, wrap_succ (by omega)]; exact ih (i + 1) (by omega) (by omega)
      · rw [if_neg (by omega), List.drop_of_length_le (by omega)]; rfl
  exact h k 0 (Nat.zero_le _) (by omega)
/-- Is it a name: one to eight small letters. -/
def nameB (s : ByteArray) : Bool := (List.range s.size).all (fun j => decide (97 ≤ bt s (j : Int) ∧ bt s (j : Int) ≤ 122)) && decide (1 ≤ (s.size : Int) ∧ (s.size : Int) ≤ 8)
theorem nameB_iff (s : ByteArray) : nameB s = true ↔ (∀ j, j < s.size → 97 ≤ bt s (j : Int) ∧ bt s (j : Int) ≤ 122) ∧ decide (1 ≤ (s.size : Int) ∧ (s.size : Int) ≤ 8) = true := by
  unfold nameB; rw [Bool.and_eq_true, List.all_eq_true]
  constructor
  · rintro ⟨h1, h2⟩; exact ⟨fun j hj => of_decide_eq_true (h1 j (List.mem_range.2 hj)), h2⟩
  · rintro ⟨h1, h2⟩; exact ⟨fun j hj => decide_eq_true (h1 j (List.mem_range.1 hj)), h2⟩
theorem nameOk_eq (s : ByteArray) (hs : s.size ≤ 1048576) (k : Nat) (hk : 1048580 < k) : impl_nameOk.f k s = some (nameB s) := by
  unfold impl_nameOk.f
  refine for_all (L := fun k i => impl_nameOk.l0 k s (s.size : Int) (i : Int)) (n := s.size) (fun j => 97 ≤ bt s (j : Int) ∧ bt s (j : Int) ≤ 122) ?_ ?_ (decide (1 ≤ (s.size : Int) ∧ (s.size : Int) ≤ 8)) ?_ (nameB_iff s) k (by omega)
  · intro k i hi hp
    simp only [impl_nameOk.l0]
    rw [if_pos (by omega), if_pos (by omega), if_pos (by omega), if_neg (by omega), if_neg (by omega), wrap_succ (by omega)]
  · intro k i hi hp
    simp only [impl_nameOk.l0]
    rw [if_pos (by omega), if_pos (by omega), if_pos (by omega)]
    by_cases h : bt s (i : Int) < 97
    · rw [if_pos h]
    · rw [if_neg h, if_pos (by omega)]
  · intro k
    simp only [impl_nameOk.l0]
    rw [if_neg (by omega), from_eq, Option.bind_some]
theorem l27Name_eq (s : ByteArray) (hs : s.size ≤ 1048576) (k : Nat) (hk : 1048580 < k) : spec_l27Name.f k s = some (nameB s) := by
  unfold spec_l27Name.f
  refine for_all (L := fun k i => spec_l27Name.l0 k s (i : Int)) (n := s.size) (fun j => 97 ≤ bt s (j : Int) ∧ bt s (j : Int) ≤ 122) ?_ ?_ (decide (1 ≤ (s.size : Int) ∧ (s.size : Int) ≤ 8)) ?_ (nameB_iff s) k (by omega)
  · intro k i hi hp
    simp only [spec_l27Name.l0]
    rw [if_pos (by omega), if_pos (by omega), if_neg (by omega), if_neg (by omega), wrap_succ (by omega)]
  · intro k i hi hp
    simp only [spec_l27Name.l0]
    rw [if_pos (by omega), if_pos (by omega)]
    by_cases h : bt s (i : Int) < 97
    · rw [if_pos h]
    · rw [if_neg h, if_pos (by omega)]
  · intro k
    simp only [spec_l27Name.l0]
    rw [if_neg (by omega), l1In_eq, Option.bind_some]
theorem rdRef' (l : List S56) (i : Nat) (h : i < l.length) : rd_T56 l (i : Int) = l[i] := by
  unfold rd_T56; simp [List.getD, h]
theorem rdIns' (l : List S52) (i : Nat) (h : i < l.length) : rd_T52 l (i : Int) = l[i] := by
  unfold rd_T52; simp [List.getD, h]
theorem refIdx_first (a : Int) : ∀ (l : List S56) (s i : Nat) (hi : i < l.length), (l[i]).f0 = a → (decide (0 ≤ refIdx a (l.take i) s) = !decide (refIdx a l s = ((s + i : Nat) : Int)))
  | [], _, _, hi, _ => absurd hi (by simp)
  | x :: r, s, 0, _, hx => by
    have e : refIdx a (x :: r) s = (s : Int) := by rw [refIdx]; exact if_pos hx
    rw [List.take_zero, e, refIdx]; simp
  | x :: r, s, i + 1, hi, hx => by
    rw [List.take_succ_cons, refIdx, refIdx]
    by_cases h : x.f0 = a
    · rw [if_pos h, if_pos h, decide_eq_true (by omega), decide_eq_false (by omega)]; rfl
    · rw [if_neg h, if_neg h, refIdx_first a r (s + 1) i (by simpa using hi) (by simpa using hx), show s + 1 + i = s + (i + 1) by omega]
theorem l27Ref_eq (n : ByteArray) (l : List S52) (r : List S56) (a : Int) (hr : r.length ≤ 1048576) (k : Nat) (hk : 1048580 < k) : spec_l27Ref.f k n l r a = some (refIdx a r 0) := by
  unfold spec_l27Ref.f
  have h : ∀ k i : Nat, i ≤ r.length → r.length < i + k → spec_l27Ref.l0 k a (i : Int) n l r = some (refIdx a (r.drop i) i) := by
    intro k
    induction k with
    | zero => intro i h1 h2; omega
    | succ k ih =>
      intro i h1 h2
      rw [spec_l27Ref.l0]
      by_cases hi : i < r.length
      · rw [if_pos (by omega), if_pos (by omega), refIdx_drop a r i hi]
        by_cases hn : (rd_T56 r (i : Int)).f0 = a
        · rw [if_pos hn, if_pos hn]
        · rw [if_neg hn, if_neg hn, wrap_succ (by omega)]; exact ih (i + 1) (by omega) (by omega)
      · rw [if_neg (by omega), List.drop_of_length_le (by omega)]; rfl
  exact h k 0 (Nat.zero_le _) (by omega)
def insB (x : S52) : Bool := insOkB x.f0 x.f1 x.f2 x.f3 x.f4
def goesB (x : S52) : Bool := decide (x.f0 = 8 ∨ x.f0 = 7)
/-- Is a reference right: its place is one that goes somewhere, and no earlier one is at this place. -/
def refCond (l : List S52) (r : List S56) (i : Nat) : Bool :=
  decide (0 ≤ (rd_T56 r (i : Int)).f0 ∧ (rd_T56 r (i : Int)).f0 ≤ (l.length : Int) - 1) && (decide (refIdx (rd_T56 r (i : Int)).f0 r 0 = (i : Int)) && (goesB (rd_T52 l (rd_T56 r (i : Int)).f0) && nameB (rd_T56 r (i : Int)).f1))
def refsB (l : List S52) (r : List S56) : Bool := (List.range r.length).all (refCond l r)
def partB (n : ByteArray) (l : List S52) (r : List S56) : Bool := nameB n && (decide (1 ≤ (l.length : Int) ∧ (l.length : Int) ≤ 24) && (decide (r.length ≤ 24) && (l.all insB && refsB l r)))
theorem refsB_iff (l : List S52) (r : List S56) : refsB l r = true ↔ (∀ j, j < r.length → refCond l r j = true) ∧ true = true := by
  unfold refsB; rw [List.all_eq_true]
  exact ⟨fun h => ⟨fun j hj => h j (List.mem_range.2 hj), rfl⟩, fun h j hj => h.1 j (List.mem_range.1 hj)⟩
theorem goes_eq (x : S52) : impl_goesTo.f x.f0 x.f1 x.f2 x.f3 x.f4 = some (goesB x) := by
  unfold impl_goesTo.f goesB
  by_cases h : x.f0 = 8
  · rw [if_pos h]; simp [h]
  · rw [if_neg h]; simp only [h, false_or]; congr 1
theorem l27Goes_eq (x : S52) : spec_l27Goes.f x.f0 x.f1 x.f2 x.f3 x.f4 = some (goesB x) := goes_eq x
theorem implPartOk_eq (n : ByteArray) (l : List S52) (r : List S56) (hn : n.size ≤ 1048576) (hl : l.length ≤ 1048576) (hr : r.length ≤ 1048576) (hx : ∀ x ∈ r, x.f1.size ≤ 1048576) (k : Nat) (hk : 4000000 < k) : impl_PartOk.f k n l r = some (partB n l r) := by
  obtain ⟨k, rfl⟩ : ∃ m, k = m + 1 := ⟨k - 1, by omega⟩
  have jt : impl_PartOk.j0 (k + 1) true n l r = some false := by rw [impl_PartOk.j0, if_pos rfl]
  unfold impl_PartOk.f partB
  rw [nameOk_eq n hn _ (by omega), Option.bind_some]
  by_cases h1 : nameB n = true
  · rw [if_pos h1, h1, from_eq, Option.bind_some, Bool.true_and]
    by_cases h2 : 1 ≤ (l.length : Int) ∧ (l.length : Int) ≤ 24
    · rw [if_pos (decide_eq_true h2), decide_eq_true h2, Bool.true_and]
      by_cases h3 : r.length ≤ 24
      · rw [if_neg (by omega), decide_eq_true h3, Bool.true_and]
        unfold slices_ContainsFunc_at_impl_PartOk_1.f slices_IndexFunc_at_impl_PartOk_1.f
        have hf : ∀ x : S52, impl_PartOk_1.f x.f0 x.f1 x.f2 x.f3 x.f4 = some (!insB x) := fun x => rfl
        have H := idx_any (n := l.length) (fun k i => slices_IndexFunc_at_impl_PartOk_1.l0 k l (l.length : Int) (i : Int)) (fun i => !insB (rd_T52 l (i : Int))) ?_ ?_ ?_ (!(l.all insB)) ?_ (k + 1) (by omega)
        · obtain ⟨v, e, hv⟩ := H
          have e' : slices_IndexFunc_at_impl_PartOk_1.l0 (k + 1) l (l.length : Int) 0 = some v := e
          rw [e', Option.bind_some, Option.bind_some, hv]
          cases hb : l.all insB
          · rw [Bool.not_false, jt, Bool.false_and]
          · rw [Bool.not_true, impl_PartOk.j0, if_neg (by simp), Bool.true_and]
            refine for_all (L := fun k' i => impl_PartOk.l0 (k' + 1048581) r (r.length : Int) (i : Int) n l r) (n := r.length) (fun j => refCond l r j = true) ?_ ?_ true ?_ (refsB_iff l r) (k - 1048581) (by omega) |> fun h => by rw [show k - 1048581 + 1048581 = k by omega] at h; exact h
            · intro k' i hi hp
              have hs : (rd_T56 r (i : Int)).f1.size ≤ 1048576 := by rw [rdRef' r i hi]; exact hx _ (List.getElem_mem hi)
              have hff := refIdx_first (rd_T56 r (i : Int)).f0 r 0 i hi (by rw [rdRef' r i hi])
              rw [Nat.zero_add] at hff
              unfold refCond at hp
              rw [Bool.and_eq_true, Bool.and_eq_true, Bool.and_eq_true] at hp
              obtain ⟨p1, p2, p3, p4⟩ := hp
              have q1 := of_decide_eq_true p1
              rw [show k' + 1 + 1048581 = (k' + 1048581) + 1 by omega, impl_PartOk.l0, if_pos (by omega), if_pos (by omega), if_pos (by omega), wrap_small (by omega) (by omega), from_eq, p1, Option.bind_some, if_pos rfl, if_pos (by omega), Int.toNat_natCast, impl_isRef.f, hff, p2, Option.bind_some, if_neg (by simp), if_pos q1.1, if_pos (by omega), goes_eq, p3, Option.bind_some, if_pos rfl, nameOk_eq _ hs _ (by omega), p4, Option.bind_some, if_pos rfl, wrap_succ (by omega)]
            · intro k' i hi hp
              have hs : (rd_T56 r (i : Int)).f1.size ≤ 1048576 := by rw [rdRef' r i hi]; exact hx _ (List.getElem_mem hi)
              have hff := refIdx_first (rd_T56 r (i : Int)).f0 r 0 i hi (by rw [rdRef' r i hi])
              rw [Nat.zero_add] at hff
              rw [show k' + 1 + 1048581 = (k' + 1048581) + 1 by omega, impl_PartOk.l0, if_pos (by omega), if_pos (by omega), if_pos (by omega), wrap_small (by omega) (by omega), from_eq, Option.bind_some]
              by_cases q1 : 0 ≤ (rd_T56 r (i : Int)).f0 ∧ (rd_T56 r (i : Int)).f0 ≤ (l.length : Int) - 1
              · rw [if_pos (decide_eq_true q1), if_pos (by omega), Int.toNat_natCast, impl_isRef.f, hff, Option.bind_some]
                by_cases q2 : refIdx (rd_T56 r (i : Int)).f0 r 0 = (i : Int)
                · rw [decide_eq_true q2, if_neg (by simp), if_pos q1.1, if_pos (by omega), goes_eq, Option.bind_some]
                  by_cases q3 : goesB (rd_T52 l (rd_T56 r (i : Int)).f0) = true
                  · rw [if_pos q3, nameOk_eq _ hs _ (by omega), Option.bind_some]
                    have q4 : ¬ nameB (rd_T56 r (i : Int)).f1 = true := fun q4 => hp (by unfold refCond; rw [decide_eq_true q1, decide_eq_true q2, q3, q4]; rfl)
                    rw [if_neg q4]
                  · rw [if_neg q3]
                · rw [decide_eq_false q2, if_pos (by simp)]
              · rw [if_neg (by simpa using q1)]
            · intro k'
              rw [show k' + 1 + 1048581 = (k' + 1048581) + 1 by omega, impl_PartOk.l0, if_neg (by omega)]
        · intro k i hi hq
          simp only [slices_IndexFunc_at_impl_PartOk_1.l0]
          rw [if_pos (by omega), if_pos (by omega), if_pos (by omega), hf, hq, Option.bind_some, if_neg (by simp), wrap_succ (by omega)]
        · intro k i hi hq
          simp only [slices_IndexFunc_at_impl_PartOk_1.l0]
          rw [if_pos (by omega), if_pos (by omega), if_pos (by omega), hf, hq, Option.bind_some, if_pos rfl]
        · intro k
          simp only [slices_IndexFunc_at_impl_PartOk_1.l0]
          rw [if_neg (by omega)]
        · constructor
          · intro h
            refine Classical.byContradiction fun hn => ?_
            have : l.all insB = true := List.all_eq_true.2 fun x hx => by
              obtain ⟨j, hj, rfl⟩ := List.getElem_of_mem hx
              refine Classical.byContradiction fun hh => hn ⟨j, hj, ?_⟩
              rw [rdIns' l j hj, Bool.eq_false_iff.2 hh]; rfl
            rw [this] at h; exact absurd h (by simp)
          · rintro ⟨j, hj, hq⟩
            cases hc' : l.all insB
            · rfl
            · have := List.all_eq_true.1 hc' _ (List.getElem_mem hj)
              rw [rdIns' l j hj, this] at hq; exact absurd hq (by simp)
      · rw [if_pos (by omega), jt, decide_eq_false h3, Bool.false_and]
    · rw [if_neg (by simpa using h2), jt, decide_eq_false h2, Bool.false_and]
  · rw [if_neg h1, jt, Bool.eq_false_iff.2 h1, Bool.false_and]
theorem specPartOk_eq (n : ByteArray) (l : List S52) (r : List S56) (hn : n.size ≤ 1048576) (hl : l.length ≤ 1048576) (hr : r.length ≤ 1048576) (hx : ∀ x ∈ r, x.f1.size ≤ 1048576) (k : Nat) (hk : 5000000 < k) : spec_PartOk.f k n l r = some (partB n l r) := by
  unfold spec_PartOk.f
  have hj : ∀ k, 3500000 < k → spec_PartOk.l1 k 0 n l r = some (refsB l r) := by
    intro k hk
    refine for_all (L := fun k' i => spec_PartOk.l1 (k' + 1048581) (i : Int) n l r) (n := r.length) (fun j => refCond l r j = true) ?_ ?_ true ?_ (refsB_iff l r) (k - 1048581) (by omega) |> fun h => by rw [show k - 1048581 + 1048581 = k by omega] at h; exact h
    · intro k' i hi hp
      have hs : (rd_T56 r (i : Int)).f1.size ≤ 1048576 := by rw [rdRef' r i hi]; exact hx _ (List.getElem_mem hi)
      unfold refCond at hp
      rw [Bool.and_eq_true, Bool.and_eq_true, Bool.and_eq_true] at hp
      obtain ⟨p1, p2, p3, p4⟩ := hp
      have q1 := of_decide_eq_true p1
      rw [show k' + 1 + 1048581 = (k' + 1048581) + 1 by omega, spec_PartOk.l1, if_pos (by omega), if_pos (by omega), wrap_small (by omega) (by omega), l1In_eq, p1, Option.bind_some, if_pos rfl, if_pos q1.1, if_pos (by omega), l27Goes_eq, p3, Option.bind_some, if_pos rfl, l27Name_eq _ hs _ (by omega), p4, Option.bind_some, if_pos rfl, l27Ref_eq n l r _ hr _ (by omega), Option.bind_some, if_pos (of_decide_eq_true p2), wrap_succ (by omega)]
    · intro k' i hi hp
      have hs : (rd_T56 r (i : Int)).f1.size ≤ 1048576 := by rw [rdRef' r i hi]; exact hx _ (List.getElem_mem hi)
      rw [show k' + 1 + 1048581 = (k' + 1048581) + 1 by omega, spec_PartOk.l1, if_pos (by omega), if_pos (by omega), wrap_small (by omega) (by omega), l1In_eq, Option.bind_some]
      by_cases q1 : 0 ≤ (rd_T56 r (i : Int)).f0 ∧ (rd_T56 r (i : Int)).f0 ≤ (l.length : Int) - 1
      · rw [if_pos (decide_eq_true q1), if_pos q1.1, if_pos (by omega), l27Goes_eq, Option.bind_some]
        by_cases q3 : goesB (rd_T52 l (rd_T56 r (i : Int)).f0) = true
        · rw [if_pos q3, l27Name_eq _ hs _ (by omega), Option.bind_some]
          by_cases q4 : nameB (rd_T56 r (i : Int)).f1 = true
          · rw [if_pos q4, l27Ref_eq n l r _ hr _ (by omega), Option.bind_some]
            have q2 : ¬ refIdx (rd_T56 r (i : Int)).f0 r 0 = (i : Int) := fun q2 => hp (by unfold refCond; rw [decide_eq_true q1, decide_eq_true q2, q3, q4]; rfl)
            rw [if_neg q2]
          · rw [if_neg q4]
        · rw [if_neg q3]
      · rw [if_neg (by simpa using q1)]
    · intro k'
      rw [show k' + 1 + 1048581 = (k' + 1048581) + 1 by omega, spec_PartOk.l1, if_neg (by omega)]
  have hins : ∀ x : S52, spec_InsOk.f x.f0 x.f1 x.f2 x.f3 x.f4 = some (insB x) := fun x => specInsOk_eq _ _ _ _ _
  refine for_all (L := fun k' i => spec_PartOk.l0 (k' + 3600000) (i : Int) n l r) (n := l.length) (fun j => insB (rd_T52 l (j : Int)) = true) ?_ ?_ (nameB n && (decide (1 ≤ (l.length : Int) ∧ (l.length : Int) ≤ 24) && (decide (r.length ≤ 24) && refsB l r))) ?_ (q := partB n l r) ?_ (k - 3600000) (by omega) |> fun h => by rw [show k - 3600000 + 3600000 = k by omega] at h; exact h
  · intro k' i hi hp
    rw [show k' + 1 + 3600000 = (k' + 3600000) + 1 by omega, spec_PartOk.l0, if_pos (by omega), if_pos (by omega), hins, hp, Option.bind_some, if_pos rfl, wrap_succ (by omega)]
  · intro k' i hi hp
    rw [show k' + 1 + 3600000 = (k' + 3600000) + 1 by omega, spec_PartOk.l0, if_pos (by omega), if_pos (by omega), hins, Option.bind_some, if_neg hp]
  · intro k'
    have jt : spec_PartOk.j1 (k' + 3600000) true n l r = some false := by rw [show k' + 3600000 = (k' + 3599999) + 1 by omega, spec_PartOk.j1, if_pos rfl]
    have jf : spec_PartOk.j1 (k' + 3600000) false n l r = some (refsB l r) := by rw [show k' + 3600000 = (k' + 3599999) + 1 by omega, spec_PartOk.j1, if_neg (by simp)]; exact hj _ (by omega)
    rw [show k' + 1 + 3600000 = (k' + 3600000) + 1 by omega, spec_PartOk.l0, if_neg (by omega), l27Name_eq n hn _ (by omega), Option.bind_some]
    by_cases h1 : nameB n = true
    · rw [if_pos h1, h1, l1In_eq, Option.bind_some, Bool.true_and]
      by_cases h2 : 1 ≤ (l.length : Int) ∧ (l.length : Int) ≤ 24
      · rw [if_pos (decide_eq_true h2), decide_eq_true h2, Bool.true_and]
        by_cases h3 : r.length ≤ 24
        · rw [decide_eq_false (by omega : ¬ (r.length : Int) > 24), jf, decide_eq_true h3, Bool.true_and]
        · rw [decide_eq_true (by omega : (r.length : Int) > 24), jt, decide_eq_false h3, Bool.false_and]
      · rw [if_neg (by simpa using h2), jt, decide_eq_false h2, Bool.false_and]
    · rw [if_neg h1, jt, Bool.eq_false_iff.2 h1, Bool.false_and]
  · have ha : l.all insB = true ↔ ∀ j, j < l.length → insB (rd_T52 l (j : Int)) = true := by
      rw [List.all_eq_true]
      constructor
      · intro h j hj; rw [rdIns' l j hj]; exact h _ (List.getElem_mem hj)
      · intro h x hx
        obtain ⟨j, hj, rfl⟩ := List.getElem_of_mem hx
        have := h j hj; rwa [rdIns' l j hj] at this
    unfold partB
    simp only [Bool.and_eq_true]
    rw [← ha]
    constructor
    · rintro ⟨h1, h2, h3, h4, h5⟩; exact ⟨h4, h1, h2, h3, h5⟩
    · rintro ⟨h4, h1, h2, h3, h5⟩; exact ⟨h1, h2, h3, h4, h5⟩
theorem and_range (x : Int) (m : Nat) (hm : m < 2 ^ 62) : 0 ≤ Go.bits .and .i64 x (m : Int) ∧ Go.bits .and .i64 x (m : Int) ≤ (m : Int) := by
  have h : (BitVec.ofInt 64 x &&& BitVec.ofInt 64 (m : Int)).toNat ≤ m := by
    rw [BitVec.toNat_and]
    refine Nat.le_trans Nat.and_le_right ?_
    rw [BitVec.ofInt_natCast, BitVec.toNat_ofNat]
    exact Nat.mod_le _ _
  have e : Go.bits .and .i64 x (m : Int) = (((BitVec.ofInt 64 x &&& BitVec.ofInt 64 (m : Int)).toNat : Nat) : Int) := by
    show IntKind.i64.wrap (((BitVec.ofInt 64 x &&& BitVec.ofInt 64 (m : Int)).toNat : Nat) : Int) = _
    exact wraps_i64 _ (by omega) (by omega)
  rw [e]; omega
/-- Where a cursor may stand. -/
def curOk (c : List Int) (i : Int) : Prop := c.length ≤ 1048576 ∧ 0 ≤ i ∧ i ≤ (c.length : Int)
theorem l1New_ex (c : List Int) (hc : c.length ≤ 1048576) (k : Nat) (hk : 4010 < k) : ∃ i s, spec_l1New.f k c = some (c, i, s) ∧ curOk c i := by
  unfold spec_l1New.f
  have h : ∀ (k j : Nat) (s : Int), j ≤ 4000 → 4000 < j + k → ∃ i s', spec_l1New.l0 k c s (j : Int) = some (c, i, s') ∧ curOk c i := by
    intro k
    induction k with
    | zero => intro j s h1 h2; omega
    | succ k ih =>
      intro j s h1 h2
      rw [spec_l1New.l0]
      by_cases h : (j : Int) < (c.length : Int)
      · rw [if_pos h]
        by_cases h' : (j : Int) < 4000
        · rw [if_pos h', if_pos (by omega), wrap_succ (by omega)]; exact ih _ _ (by omega) (by omega)
        · rw [if_neg h']; exact ⟨_, _, rfl, hc, by omega, by omega⟩
      · rw [if_neg h]; exact ⟨_, _, rfl, hc, by omega, by omega⟩
  exact h k 0 _ (by omega) (by omega)
theorem l1Byte_ex (c : List Int) (i s : Int) (h : curOk c i) : ∃ b i' s', spec_l1Byte.f c i s = some (b, i', s') ∧ 0 ≤ b ∧ b ≤ 255 ∧ curOk c i' := by
  unfold spec_l1Byte.f
  obtain ⟨h1, h2, h3⟩ := h
  by_cases hl : i < (c.length : Int)
  · rw [if_pos hl, if_pos h2]
    have hr := fun x => and_range x 255 (by decide)
    exact ⟨_, _, _, rfl, (hr _).1, (hr _).2, h1, by unfold wrap64; omega, by unfold wrap64; omega⟩
  · rw [if_neg hl]
    have hr := fun x => and_range x 255 (by decide)
    exact ⟨_, _, _, rfl, (hr _).1, (hr _).2, h1, h2, h3⟩
theorem l1Below_ex (c : List Int) (i s : Int) (h : curOk c i) (n : Int) (hn : 0 < n) (hb : n ≤ 4294967296) : ∃ v i' s', spec_l1Below.f c i s n = some (v, i', s') ∧ 0 ≤ v ∧ v < n ∧ curOk c i' := by
  unfold spec_l1Below.f
  rw [if_neg (by omega)]
  by_cases hs : n ≤ 256
  · obtain ⟨b, i1, s1, e, h0, h1, hc⟩ := l1Byte_ex c i s h
    rw [if_pos hs, e, Option.bind_some, if_neg (by omega)]
    exact ⟨_, _, _, rfl, Int.tmod_nonneg _ h0, Int.tmod_lt_of_pos _ hn, hc⟩
  · obtain ⟨b1, i1, s1, e1, p1, q1, c1⟩ := l1Byte_ex c i s h
    obtain ⟨b2, i2, s2, e2, p2, q2, c2⟩ := l1Byte_ex c i1 s1 c1
    obtain ⟨b3, i3, s3, e3, p3, q3, c3⟩ := l1Byte_ex c i2 s2 c2
    obtain ⟨b4, i4, s4, e4, p4, q4, c4⟩ := l1Byte_ex c i3 s3 c3
    rw [if_neg hs]
    simp only [e1, e2, e3, e4, Option.bind_some]
    rw [if_neg (by omega)]
    exact ⟨_, _, _, rfl, Int.tmod_nonneg _ (by unfold wrap64; omega), Int.tmod_lt_of_pos _ hn, c4⟩
theorem l1Once_ex (c : List Int) (i s : Int) (h : curOk c i) (n : Int) (hn : 0 < n) (hb : n ≤ 4294967296) : ∃ v i' s', spec_l1Once.f c i s n = some (v, i', s') ∧ curOk c i' := by
  unfold spec_l1Once.f
  obtain ⟨v, i1, s1, e, _, _, hc⟩ := l1Below_ex c i s h n hn hb
  rw [e, Option.bind_some]
  exact ⟨_, _, _, rfl, hc⟩
theorem l1PickInt_ex (c : List Int) (i s : Int) (h : curOk c i) (l : List Int) (h0 : 0 < l.length) (h1 : l.length ≤ 1000) : ∃ v i' s', spec_l1PickInt.f c i s l = some (v, i', s') ∧ v ∈ l ∧ curOk c i' := by
  unfold spec_l1PickInt.f
  obtain ⟨v, i1, s1, e, p, q, hc⟩ := l1Below_ex c i s h (l.length : Int) (by omega) (by omega)
  rw [e, Option.bind_some, if_pos p, if_pos q]
  refine ⟨_, _, _, rfl, ?_, hc⟩
  obtain ⟨j, rfl⟩ : ∃ j : Nat, v = (j : Int) := ⟨v.toNat, by omega⟩
  exact rd_mem l j (by omega)
theorem l8Has_ex (o : Int) (h0 : 1 ≤ o) (h1 : o ≤ 10) : ∃ v, spec_l8Has.f o = some v := by
  unfold spec_l8Has.f
  rw [l1In_eq, decide_eq_true ⟨h0, h1⟩, Option.bind_some, if_pos rfl, Option.bind_some, if_pos (by omega), if_pos (by simp; omega)]
  exact ⟨_, rfl⟩
theorem drawIns_j1 (x : Int) (c : List Int) (i s : Int) (h : curOk c i) (o r a b n : Int) (k : Nat) : ∃ o' r' a' b' n' i' s', spec_l8DrawIns.j1 (k + 1) x c i s o r a b n = some (o', r', a', b', n', i', s') ∧ curOk c i' := by
  rw [spec_l8DrawIns.j1]
  obtain ⟨v, i1, s1, e1, _, _, c1⟩ := l1Below_ex c i s h 4 (by omega) (by omega)
  obtain ⟨v2, i2, s2, e2, _, c2⟩ := l1PickInt_ex c i s h [0, 1, 2, 4, 8, 9, 12, 20, 23] (by simp) (by simp)
  obtain ⟨v3, i3, s3, e3, _, c3⟩ := l1PickInt_ex c i1 s1 c1 [0, 1, 2, 4, 8, 9, 12, 20, 23] (by simp) (by simp)
  by_cases h1 : Go.bits .and .i64 x 4 = 0
  · rw [if_pos h1]
    by_cases h2 : Go.bits .and .i64 x 8 = 0
    · rw [if_pos h2]; exact ⟨_, _, _, _, _, _, _, rfl, h⟩
    · rw [if_neg h2, e2, Option.bind_some]; exact ⟨_, _, _, _, _, _, _, rfl, c2⟩
  · rw [if_neg h1, e1, Option.bind_some]
    by_cases h2 : Go.bits .and .i64 x 8 = 0
    · rw [if_pos h2]; exact ⟨_, _, _, _, _, _, _, rfl, c1⟩
    · rw [if_neg h2]
      simp only [e3, Option.bind_some]; exact ⟨_, _, _, _, _, _, _, rfl, c3⟩
theorem drawIns_j0 (x : Int) (c : List Int) (i s : Int) (h : curOk c i) (o r a b n : Int) (k : Nat) : ∃ o' r' a' b' n' i' s', spec_l8DrawIns.j0 (k + 2) x c i s o r a b n = some (o', r', a', b', n', i', s') ∧ curOk c i' := by
  rw [spec_l8DrawIns.j0]
  obtain ⟨v, i1, s1, e1, _, _, c1⟩ := l1Below_ex c i s h 4 (by omega) (by omega)
  by_cases h1 : Go.bits .and .i64 x 2 = 0
  · rw [if_pos h1]; exact drawIns_j1 x c i s h o r a b n k
  · rw [if_neg h1, e1, Option.bind_some]; exact drawIns_j1 x c i1 s1 c1 o r v b n k
theorem drawIns_ex (c : List Int) (i s : Int) (h : curOk c i) (k : Nat) (hk : 2 ≤ k) : ∃ o r a b n i' s', spec_l8DrawIns.f k c i s = some (o, r, a, b, n, i', s') ∧ curOk c i' := by
  obtain ⟨k, rfl⟩ : ∃ m, k = m + 2 := ⟨k - 2, by omega⟩
  unfold spec_l8DrawIns.f
  obtain ⟨o, i1, s1, e1, ho, c1⟩ := l1PickInt_ex c i s h [1, 1, 2, 3, 3, 4, 4, 5, 5, 5, 6, 6, 7, 8, 9, 10] (by simp) (by simp)
  have ho' : 1 ≤ o ∧ o ≤ 10 := by simp at ho; omega
  obtain ⟨x, ex⟩ := l8Has_ex o ho'.1 ho'.2
  rw [e1, Option.bind_some]
  simp only [ex, Option.bind_some]
  by_cases h1 : Go.bits .and .i64 x 1 = 0
  · rw [if_pos h1]; exact drawIns_j0 x c i1 s1 c1 o 0 0 0 0 k
  · obtain ⟨v, i2, s2, e2, _, _, c2⟩ := l1Below_ex c i1 s1 c1 4 (by omega) (by omega)
    rw [if_neg h1, e2, Option.bind_some]; exact drawIns_j0 x c i2 s2 c2 o v 0 0 0 k
theorem sameInts_same (l : List Int) (hl : l.length ≤ 1048576) (k : Nat) (hk : 1048580 < k) : laws_sameInts.f k l l = some true := by
  unfold laws_sameInts.f
  rw [if_pos rfl]
  refine same_loop (C := 0) (n := l.length) (fun k i => laws_sameInts.l0 k l l (i : Int)) ?_ ?_ k (by omega)
  · intro k i hi _
    simp only [laws_sameInts.l0]
    rw [if_pos (by omega), if_pos (by omega), if_pos (by omega), if_pos trivial, wrap_succ (by omega)]
  · intro k
    simp only [laws_sameInts.l0]
    rw [if_neg (by omega)]
/-- A part of a list is right: it is, and the first of its name. -/
def okP (l : List S45) (i : Nat) : Bool := partB (rd_T45 l (i : Int)).f0 (rd_T45 l (i : Int)).f1 (rd_T45 l (i : Int)).f2 && decide (partIdx (rd_T45 l (i : Int)).f0 l 0 = (i : Int))
def atTo (l : List S45) : Nat → Nat
  | 0 => 0
  | i + 1 => atTo l i + (rd_T45 l (i : Int)).f1.length
def outTo (l : List S45) (i : Nat) : List Int := (List.range i).map fun j => (atTo l j : Int)
theorem outTo_len (l : List S45) (i : Nat) : (outTo l i).length = i := by simp [outTo]
theorem outTo_succ (l : List S45) (i : Nat) : outTo l i ++ [(atTo l i : Int)] = outTo l (i + 1) := by unfold outTo; rw [List.range_succ, List.map_append]; rfl
def layB (l : List S45) : Bool := decide (l.length ≤ 4) && ((List.range l.length).all (okP l) && decide (atTo l l.length ≤ 24))
def layV (l : List S45) : List Int × Bool := if layB l = true then (outTo l l.length, true) else ([], false)
theorem layV_no (l : List S45) (i : Nat) (h : i < l.length) (h2 : okP l i = false) : layV l = ([], false) := by
  unfold layV
  rw [if_neg]
  intro q
  unfold layB at q
  rw [Bool.and_eq_true, Bool.and_eq_true, List.all_eq_true] at q
  have := q.2.1 i (List.mem_range.2 h)
  rw [h2] at this; exact absurd this (by simp)
def partsIn (l : List S45) : Prop := ∀ x ∈ l, x.f0.size ≤ 1048576 ∧ x.f1.length ≤ 1048576 ∧ x.f2.length ≤ 1048576 ∧ ∀ y ∈ x.f2, y.f1.size ≤ 1048576
theorem atTo_le (l : List S45) (hx : partsIn l) : ∀ i, i ≤ l.length → atTo l i ≤ 1048576 * i
  | 0, _ => Nat.le_refl _
  | i + 1, h => by
    have h1 := atTo_le l hx i (by omega)
    have h2 := (hx _ (List.getElem_mem (by omega : i < l.length))).2.1
    rw [atTo, rdPart l i (by omega)]; omega
theorem layV_end (l : List S45) (h4 : l.length ≤ 4) (hk : ∀ j, j < l.length → okP l j = true) : layV l = if (atTo l l.length : Int) > 24 then ([], false) else (outTo l l.length, true) := by
  unfold layV
  by_cases c : (atTo l l.length : Int) > 24
  · rw [if_pos c, if_neg]
    intro q
    unfold layB at q
    rw [Bool.and_eq_true, Bool.and_eq_true] at q
    have := of_decide_eq_true q.2.2
    omega
  · rw [if_neg c, if_pos]
    unfold layB
    rw [decide_eq_true h4, decide_eq_true (by omega), Bool.true_and, Bool.and_true, List.all_eq_true]
    exact fun j hj => hk j (List.mem_range.1 hj)
theorem implLay_l (l : List S45) (hx : partsIn l) (h4 : l.length ≤ 4) : ∀ (d i k : Nat), i + d = l.length → 6000000 + d < k → (∀ j, j < i → okP l j = true) →
    impl_Layout.l0 k l (outTo l i) (atTo l i : Int) l (l.length : Int) (i : Int) = some (layV l)
  | 0, i, k, hi, hk, hj => by
    obtain ⟨k, rfl⟩ : ∃ m, k = m + 1 := ⟨k - 1, by omega⟩
    have e : i = l.length := by omega
    subst e
    rw [impl_Layout.l0, if_neg (by omega), layV_end l h4 hj]
    split <;> rfl
  | d + 1, i, k, hi, hk, hj => by
    obtain ⟨k, rfl⟩ : ∃ m, k = m + 1 := ⟨k - 1, by omega⟩
    have hm := List.getElem_mem (by omega : i < l.length)
    have hxi := hx _ hm
    have hat := atTo_le l hx i (by omega)
    have er := rdPart l i (by omega)
    have no : okP l i = false → layV l = ([], false) := layV_no l i (by omega)
    have e2 : impl_PartAt.f l (rd_T45 l (i : Int)).f0 = some (partIdx (rd_T45 l (i : Int)).f0 l 0) := rfl
    have e1 : impl_PartOk.f k (rd_T45 l (i : Int)).f0 (rd_T45 l (i : Int)).f1 (rd_T45 l (i : Int)).f2 = some (partB (rd_T45 l (i : Int)).f0 (rd_T45 l (i : Int)).f1 (rd_T45 l (i : Int)).f2) := by
      rw [er]; exact implPartOk_eq _ _ _ hxi.1 hxi.2.1 hxi.2.2.1 hxi.2.2.2 k (by omega)
    rw [impl_Layout.l0, if_pos (by omega), if_pos (by omega), if_pos (by omega), e1, Option.bind_some]
    by_cases p : partB (rd_T45 l (i : Int)).f0 (rd_T45 l (i : Int)).f1 (rd_T45 l (i : Int)).f2 = true
    · rw [if_pos p, e2, Option.bind_some]
      by_cases q : partIdx (rd_T45 l (i : Int)).f0 l 0 = (i : Int)
      · have ok : okP l i = true := by unfold okP; rw [p, decide_eq_true q]; rfl
        have hl2 : (rd_T45 l (i : Int)).f1.length ≤ 1048576 := by rw [er]; exact hxi.2.1
        rw [if_pos q, if_pos (by rw [outTo_len]; omega), outTo_succ, wrap_succ (by omega), wrap_small (x := (atTo l i : Int) + _) (by omega) (by omega)]
        have := implLay_l l hx h4 d (i + 1) k (by omega) (by omega) (fun j hj' => by
          by_cases e : j = i
          · subst e; exact ok
          · exact hj j (by omega))
        rw [atTo, Int.natCast_add] at this
        exact this
      · rw [if_neg q, no (by unfold okP; rw [decide_eq_false q, Bool.and_false])]
    · rw [if_neg p, no (by unfold okP; rw [Bool.eq_false_iff.2 p, Bool.false_and])]
theorem implLayout_eq (l : List S45) (hx : partsIn l) (k : Nat) (hk : 6000010 < k) : impl_Layout.f k l = some (layV l) := by
  unfold impl_Layout.f
  by_cases c : (l.length : Int) > 4
  · rw [if_pos c]; unfold layV layB; rw [decide_eq_false (by omega), Bool.false_and]; rfl
  · rw [if_neg c]
    exact implLay_l l hx (by omega) l.length 0 k (by omega) (by omega) (fun j hj => by omega)
theorem specLay_l (l : List S45) (hx : partsIn l) (h4 : l.length ≤ 4) : ∀ (d i k : Nat), i + d = l.length → 6000000 + d < k → (∀ j, j < i → okP l j = true) →
    spec_Layout.l0 k l (outTo l i) (atTo l i : Int) (i : Int) = some (layV l)
  | 0, i, k, hi, hk, hj => by
    obtain ⟨k, rfl⟩ : ∃ m, k = m + 1 := ⟨k - 1, by omega⟩
    have e : i = l.length := by omega
    subst e
    rw [spec_Layout.l0, if_neg (by omega), layV_end l h4 hj]
    split <;> rfl
  | d + 1, i, k, hi, hk, hj => by
    obtain ⟨k, rfl⟩ : ∃ m, k = m + 1 := ⟨k - 1, by omega⟩
    have hm := List.getElem_mem (by omega : i < l.length)
    have hxi := hx _ hm
    have hat := atTo_le l hx i (by omega)
    have er := rdPart l i (by omega)
    have no : okP l i = false → layV l = ([], false) := layV_no l i (by omega)
    have e1 : spec_PartOk.f k (rd_T45 l (i : Int)).f0 (rd_T45 l (i : Int)).f1 (rd_T45 l (i : Int)).f2 = some (partB (rd_T45 l (i : Int)).f0 (rd_T45 l (i : Int)).f1 (rd_T45 l (i : Int)).f2) := by
      rw [er]; exact specPartOk_eq _ _ _ hxi.1 hxi.2.1 hxi.2.2.1 hxi.2.2.2 k (by omega)
    rw [spec_Layout.l0, if_pos (by omega), if_pos (by omega), e1, Option.bind_some]
    by_cases p : partB (rd_T45 l (i : Int)).f0 (rd_T45 l (i : Int)).f1 (rd_T45 l (i : Int)).f2 = true
    · rw [if_pos p, specPartAt_eq l _ (by omega) k (by omega), Option.bind_some]
      by_cases q : partIdx (rd_T45 l (i : Int)).f0 l 0 = (i : Int)
      · have ok : okP l i = true := by unfold okP; rw [p, decide_eq_true q]; rfl
        have hl2 : (rd_T45 l (i : Int)).f1.length ≤ 1048576 := by rw [er]; exact hxi.2.1
        rw [if_pos q, if_neg (by omega), if_pos (by rw [outTo_len]; omega), outTo_succ, wrap_succ (by omega), wrap_small (x := (atTo l i : Int) + _) (by omega) (by omega)]
        have := specLay_l l hx h4 d (i + 1) k (by omega) (by omega) (fun j hj' => by
          by_cases e : j = i
          · subst e; exact ok
          · exact hj j (by omega))
        rw [atTo, Int.natCast_add] at this
        exact this
      · rw [if_neg q, no (by unfold okP; rw [decide_eq_false q, Bool.and_false])]
    · rw [if_neg p, no (by unfold okP; rw [Bool.eq_false_iff.2 p, Bool.false_and])]
theorem specLayout_eq (l : List S45) (hx : partsIn l) (hl : l.length ≤ 1048576) (k : Nat) (hk : 6000010 < k) : spec_Layout.f k l = some (layV l) := by
  unfold spec_Layout.f
  by_cases c : l.length ≤ 4
  · exact specLay_l l hx c l.length 0 k (by omega) (by omega) (fun j hj => by omega)
  · have hv : layV l = ([], false) := by unfold layV layB; rw [decide_eq_false c, Bool.false_and]; rfl
    obtain ⟨k, rfl⟩ : ∃ m, k = m + 1 := ⟨k - 1, by omega⟩
    have hxi := hx _ (List.getElem_mem (by omega : 0 < l.length))
    have er := rdPart l 0 (by omega)
    have e1 : spec_PartOk.f k (rd_T45 l 0).f0 (rd_T45 l 0).f1 (rd_T45 l 0).f2 = some (partB (rd_T45 l 0).f0 (rd_T45 l 0).f1 (rd_T45 l 0).f2) := by
      have er' : rd_T45 l 0 = l[0] := er
      rw [er']; exact specPartOk_eq _ _ _ hxi.1 hxi.2.1 hxi.2.2.1 hxi.2.2.2 k (by omega)
    rw [spec_Layout.l0, if_pos (by omega), if_pos (by omega), e1, Option.bind_some, hv, specPartAt_eq l _ hl k (by omega)]
    split
    · rw [Option.bind_some]
      split
      · rw [if_pos (by omega)]
      · rfl
    · rfl
theorem l1Pick_ex (c : List Int) (i s : Int) (h : curOk c i) (l : List ByteArray) (h0 : 0 < l.length) (h1 : l.length ≤ 1000) : ∃ v i' s', spec_l1Pick.f c i s l = some (v, i', s') ∧ v ∈ l ∧ curOk c i' := by
  unfold spec_l1Pick.f
  obtain ⟨v, i1, s1, e, p, q, hc⟩ := l1Below_ex c i s h (l.length : Int) (by omega) (by omega)
  rw [e, Option.bind_some, if_pos p, if_pos q]
  refine ⟨_, _, _, rfl, ?_, hc⟩
  obtain ⟨j, rfl⟩ : ∃ j : Nat, v = (j : Int) := ⟨v.toNat, by omega⟩
  have : rdOf ByteArray.empty l (j : Int) = l[j] := by unfold rdOf; simp [List.getD, show j < l.length by omega]
  rw [this]; exact List.getElem_mem _
theorem drawOne_ex (c : List Int) (hc : c.length ≤ 1048576) (k : Nat) (hk : 5000 < k) : ∃ o r a b n, spec_l8DrawOne.f k c = some (o, r, a, b, n) := by
  unfold spec_l8DrawOne.f
  obtain ⟨i0, s0, e0, c0⟩ := l1New_ex c hc k (by omega)
  obtain ⟨o, r, a, b, n, i1, s1, e1, c1⟩ := drawIns_ex c i0 s0 c0 k (by omega)
  obtain ⟨v, i2, s2, e2, _, _, c2⟩ := l1Below_ex c i1 s1 c1 8 (by omega) (by omega)
  obtain ⟨v3, i3, s3, e3, _, _, c3⟩ := l1Below_ex c i2 s2 c2 13 (by omega) (by omega)
  obtain ⟨v4, i4, s4, e4, _, c4⟩ := l1PickInt_ex c i2 s2 c2 [(-1), 3, 4] (by simp) (by simp)
  obtain ⟨v5, i5, s5, e5, _, c5⟩ := l1PickInt_ex c i2 s2 c2 [(-1), 63, 64] (by simp) (by simp)
  simp only [e0, e1, e2, e3, e4, e5, Option.bind_some]
  repeat' split
  all_goals exact ⟨_, _, _, _, _, rfl⟩
/-- What a drawn part is like: small. -/
def smallPart (nm : ByteArray) (L : List S52) (R : List S56) : Prop := nm.size ≤ 1000 ∧ L.length ≤ 1000 ∧ R.length ≤ 1000 ∧ ∀ y ∈ R, y.f1.size ≤ 1000
theorem drawPart_l0 (c : List Int) (nm : ByteArray) (hn : nm.size ≤ 1000) : ∀ (d j : Nat) (L : List S52) (R : List S56) (i s : Int) (k : Nat), curOk c i → L.length = j → R.length ≤ j → (∀ y ∈ R, y.f1.size ≤ 1000) → j + d = 5 → 6000 + d < k →
    ∃ nm' L' R' i' s', spec_l27DrawPart.l0 k (j : Int) c i s nm L R = some (nm', L', R', i', s') ∧ smallPart nm' L' R' ∧ curOk c i'
  | d, j, L, R, i, s, k, h, hL, hR, hy, hj, hk => by
    obtain ⟨k, rfl⟩ : ∃ q, k = q + 1 := ⟨k - 1, by omega⟩
    obtain ⟨v0, i0, s0, e0, p0, q0, c0⟩ := l1Below_ex c i s h 5 (by omega) (by omega)
    simp only [spec_l27DrawPart.l0]
    rw [e0, Option.bind_some]
    dsimp only
    rw [wrap_small (x := 1 + v0) (by omega) (by omega)]
    by_cases hc : (j : Int) < 1 + v0
    · rw [if_pos hc]
      match d, hj, hk with
      | 0, hj, _ => omega
      | d + 1, hj, hk =>
        obtain ⟨o, r, a, b, n, i1, s1, e1, c1⟩ := drawIns_ex c i0 s0 c0 k (by omega)
        rw [e1, Option.bind_some]
        dsimp only
        rw [if_pos (by omega), Option.bind_some, wrap_succ (by omega)]
        have hg : ∃ g, spec_l27Goes.f o r a b n = some g := by unfold spec_l27Goes.f; repeat' split <;> exact ⟨_, rfl⟩
        obtain ⟨g, eg⟩ := hg
        rw [eg, Option.bind_some]
        have hL' : (L ++ [(⟨o, r, a, b, n⟩ : S52)]).length = j + 1 := by rw [List.length_append, hL]; rfl
        by_cases cg : g = true
        · rw [if_pos cg]
          obtain ⟨on, i2, s2, e2, c2⟩ := l1Once_ex c i1 s1 c1 2 (by omega) (by omega)
          rw [e2, Option.bind_some]
          dsimp only
          by_cases co : on = true
          · rw [if_pos co]
            obtain ⟨pn, i3, s3, e3, m3, c3⟩ := l1Pick_ex c i2 s2 c2 ([(⟨#[109, 97, 105, 110]⟩ : ByteArray), (⟨#[108, 111, 111, 112]⟩ : ByteArray), (⟨#[101, 110, 100]⟩ : ByteArray)] : List ByteArray) (by simp) (by simp)
            rw [e3, Option.bind_some]
            dsimp only
            rw [if_pos (by omega)]
            refine drawPart_l0 c nm hn d (j + 1) _ _ i3 s3 k c3 hL' (by rw [List.length_append, List.length_singleton]; omega) (fun y hy' => ?_) (by omega) (by omega)
            rcases List.mem_append.1 hy' with h1 | h1
            · exact hy y h1
            · rw [List.mem_singleton] at h1; subst h1
              simp only [List.mem_cons, List.mem_nil_iff, or_false, List.not_mem_nil] at m3
              rcases m3 with rfl | rfl | rfl <;> (dsimp only; decide)
          · rw [if_neg co]
            exact drawPart_l0 c nm hn d (j + 1) _ _ i2 s2 k c2 hL' (by omega) hy (by omega) (by omega)
        · rw [if_neg cg]
          exact drawPart_l0 c nm hn d (j + 1) _ _ i1 s1 k c1 hL' (by omega) hy (by omega) (by omega)
    · rw [if_neg hc]
      obtain ⟨v1, i1, s1, e1, p1, q1, c1⟩ := l1Below_ex c i0 s0 c0 14 (by omega) (by omega)
      rw [e1, Option.bind_some]
      dsimp only
      by_cases h0 : v1 = 0
      · obtain ⟨pn, i3, s3, e3, m3, c3⟩ := l1Pick_ex c i1 s1 c1 ([(⟨#[]⟩ : ByteArray), (⟨#[97, 98, 99, 100, 101, 102, 103, 104, 105]⟩ : ByteArray), (⟨#[97, 49]⟩ : ByteArray)] : List ByteArray) (by simp) (by simp)
        rw [if_pos h0, e3, Option.bind_some]
        refine ⟨_, _, _, _, _, rfl, ⟨?_, by omega, by omega, hy⟩, c3⟩
        simp only [List.mem_cons, List.mem_nil_iff, or_false, List.not_mem_nil] at m3
        rcases m3 with rfl | rfl | rfl <;> (dsimp only; decide)
      · rw [if_neg h0]
        by_cases h1 : v1 = 1
        · obtain ⟨v2, i2, s2, e2, p2, q2, c2⟩ := l1Below_ex c i1 s1 c1 4 (by omega) (by omega)
          rw [if_pos h1, e2, Option.bind_some]
          dsimp only
          rw [if_pos (by omega)]
          refine ⟨_, _, _, _, _, rfl, ⟨hn, by omega, by rw [List.length_append, List.length_singleton]; omega, fun y hy' => ?_⟩, c2⟩
          rcases List.mem_append.1 hy' with h1 | h1
          · exact hy y h1
          · rw [List.mem_singleton] at h1; subst h1; dsimp only; decide
        · rw [if_neg h1]
          by_cases h2 : v1 = 2
          · obtain ⟨v2, i2, s2, e2, p2, q2, c2⟩ := l1Below_ex c i1 s1 c1 256 (by omega) (by omega)
            obtain ⟨v3, i3, s3, e3, p3, q3, c3⟩ := l1Below_ex c i2 s2 c2 256 (by omega) (by omega)
            obtain ⟨o, r, a, b, n, e4⟩ := drawOne_ex [v2 % 256, v3 % 256] (by simp) k (by omega)
            rw [if_pos h2, e2, Option.bind_some]
            dsimp only
            rw [e3, Option.bind_some]
            dsimp only
            rw [e4, Option.bind_some, if_pos (by omega)]
            exact ⟨_, _, _, _, _, rfl, ⟨hn, by rw [List.length_set]; omega, by omega, hy⟩, c3⟩
          · rw [if_neg h2]
            exact ⟨_, _, _, _, _, rfl, ⟨hn, by omega, by omega, hy⟩, c1⟩
theorem drawPart_ex (c : List Int) (i s : Int) (h : curOk c i) (k : Nat) (hk : 6010 < k) : ∃ nm L R i' s', spec_l27DrawPart.f k c i s = some (nm, L, R, i', s') ∧ smallPart nm L R ∧ curOk c i' := by
  unfold spec_l27DrawPart.f
  obtain ⟨pn, i3, s3, e3, m3, c3⟩ := l1Pick_ex c i s h ([(⟨#[109, 97, 105, 110]⟩ : ByteArray), (⟨#[108, 111, 111, 112]⟩ : ByteArray), (⟨#[101, 110, 100]⟩ : ByteArray), (⟨#[103, 101, 116]⟩ : ByteArray)] : List ByteArray) (by simp) (by simp)
  rw [e3, Option.bind_some]
  refine drawPart_l0 c pn ?_ 5 0 [] [] i3 s3 k c3 rfl (by simp) (by simp) (by omega) (by omega)
  simp only [List.mem_cons, List.mem_nil_iff, or_false, List.not_mem_nil] at m3
  rcases m3 with rfl | rfl | rfl | rfl <;> decide
def smallParts (l : List S45) : Prop := l.length ≤ 4 ∧ ∀ x ∈ l, smallPart x.f0 x.f1 x.f2
theorem drawList_l0 (c : List Int) (N : List ByteArray) (hN : N.length = 5) (hN2 : ∀ x ∈ N, x.size ≤ 1000) : ∀ (d j : Nat) (l : List S45) (i s : Int) (k : Nat), curOk c i → l.length = j → (∀ x ∈ l, smallPart x.f0 x.f1 x.f2) → j + d = 4 → 7000 + d < k →
    ∃ l' i' s', spec_l27DrawList.l0 k l N (j : Int) c i s = some (l', i', s') ∧ smallParts l' ∧ curOk c i'
  | d, j, l, i, s, k, h, hl, hx, hj, hk => by
    obtain ⟨k, rfl⟩ : ∃ q, k = q + 1 := ⟨k - 1, by omega⟩
    obtain ⟨v0, i0, s0, e0, p0, q0, c0⟩ := l1Below_ex c i s h 5 (by omega) (by omega)
    simp only [spec_l27DrawList.l0]
    rw [e0, Option.bind_some]
    dsimp only
    by_cases hc : (j : Int) < v0
    · rw [if_pos hc]
      match d, hj, hk with
      | 0, hj, _ => omega
      | d + 1, hj, hk =>
        obtain ⟨nm, L, R, i1, s1, e1, hs, c1⟩ := drawPart_ex c i0 s0 c0 k (by omega)
        obtain ⟨on, i2, s2, e2, c2⟩ := l1Once_ex c i1 s1 c1 8 (by omega) (by omega)
        rw [e1, Option.bind_some]
        dsimp only
        rw [e2, Option.bind_some]
        dsimp only
        rw [wrap_succ (by omega)]
        have more : ∀ z : S45, smallPart z.f0 z.f1 z.f2 → ∃ l' i' s', spec_l27DrawList.l0 k (l ++ [z]) N ((j + 1 : Nat) : Int) c i2 s2 = some (l', i', s') ∧ smallParts l' ∧ curOk c i' := fun z hz =>
          drawList_l0 c N hN hN2 d (j + 1) _ i2 s2 k c2 (by rw [List.length_append, hl]; rfl) (fun x hx' => by
            rcases List.mem_append.1 hx' with h1 | h1
            · exact hx x h1
            · rw [List.mem_singleton] at h1; subst h1; exact hz) (by omega) (by omega)
        by_cases co : on = true
        · rw [if_pos co, if_pos (by omega)]
          exact more _ hs
        · rw [if_neg co, if_pos (by omega), if_pos (by omega), if_pos (by omega)]
          refine more _ ⟨?_, hs.2⟩
          have : rdOf ByteArray.empty N (j : Int) = N[j] := by unfold rdOf; simp [List.getD, show j < N.length by omega]
          dsimp only
          rw [this]; exact hN2 _ (List.getElem_mem _)
    · rw [if_neg hc]
      exact ⟨_, _, _, rfl, ⟨by omega, hx⟩, c0⟩
theorem drawList_ex (c : List Int) (i s : Int) (h : curOk c i) (k : Nat) (hk : 7010 < k) : ∃ l i' s', spec_l27DrawList.f k c i s = some (l, i', s') ∧ smallParts l ∧ curOk c i' := by
  unfold spec_l27DrawList.f
  refine drawList_l0 c _ rfl ?_ 4 0 [] i s k h rfl (by simp) (by omega) (by omega)
  intro x hx
  simp only [List.mem_cons, List.mem_nil_iff, or_false, List.not_mem_nil] at hx
  rcases hx with rfl | rfl | rfl | rfl | rfl <;> decide
theorem layouts_l0 (l : List S45) (hs : smallParts l) (hb : layB l = true) : ∀ (d i k : Nat), i + d = l.length → d < k → laws_FnLayouts.l0 k l (outTo l l.length) true (i : Int) = some true := by
  have hp : partsIn l := fun x hx => by have := hs.2 x hx; exact ⟨by have := this.1; omega, by have := this.2.1; omega, by have := this.2.2.1; omega, fun y hy => by have := this.2.2.2 y hy; omega⟩
  unfold layB at hb
  rw [Bool.and_eq_true, Bool.and_eq_true, List.all_eq_true] at hb
  obtain ⟨h4, hok, hat⟩ := hb
  have h4 := of_decide_eq_true h4
  have hat := of_decide_eq_true hat
  have hol := outTo_len l l.length
  have hget : ∀ j, j < l.length → rd (outTo l l.length) (j : Int) = (atTo l j : Int) := fun j hj => by
    rw [rd_nat _ j (by omega)]; simp [outTo]
  have hmono : ∀ d j, j + d ≤ l.length → atTo l j ≤ atTo l (j + d) := by
    intro d
    induction d with
    | zero => intro j _; exact Nat.le_refl _
    | succ d ih => intro j hj; have := ih j (by omega); rw [← Nat.add_assoc, atTo]; omega
  have hidx : ∀ j, j < l.length → impl_PartAt.f l (rd_T45 l (j : Int)).f0 = some (j : Int) := fun j hj => by
    have := hok j (List.mem_range.2 hj)
    unfold okP at this
    rw [Bool.and_eq_true] at this
    have := of_decide_eq_true this.2
    unfold impl_PartAt.f
    rw [this]
  intro d
  induction d with
  | zero =>
    intro i k hi hk
    obtain ⟨k, rfl⟩ : ∃ q, k = q + 1 := ⟨k - 1, by omega⟩
    simp only [laws_FnLayouts.l0]
    rw [if_neg (by omega), if_pos trivial]
  | succ d ih =>
    intro i k hi hk
    obtain ⟨k, rfl⟩ : ∃ q, k = q + 1 := ⟨k - 1, by omega⟩
    have hlt : i < l.length := by omega
    have hsucc : atTo l (i + 1) = atTo l i + (rd_T45 l (i : Int)).f1.length := rfl
    have hle := atTo_le l hp i (by omega)
    have hle2 := atTo_le l hp (i + 1) (by omega)
    have hmm := hmono (l.length - (i + 1)) (i + 1) (by omega)
    rw [show i + 1 + (l.length - (i + 1)) = l.length by omega] at hmm
    simp only [laws_FnLayouts.l0]
    rw [if_pos (by omega), wrap_succ (by omega), hget i hlt, wrap_small (x := (atTo l i : Int) + _) (by omega) (by omega)]
    by_cases c : i + 1 < l.length
    · rw [if_pos (by omega), if_pos (by omega), if_pos (by omega), if_pos (by omega), hget (i + 1) c, if_neg (by omega), if_pos (by omega), hidx i hlt, Option.bind_some, if_pos rfl]
      exact ih (i + 1) k (by omega) (by omega)
    · rw [if_neg (by omega), if_pos (by omega), if_pos (by omega), if_neg (by omega), hidx i hlt, Option.bind_some, if_pos rfl]
      exact ih (i + 1) k (by omega) (by omega)
theorem FnLayouts : laws_FnLayouts.Pure := by
  intro c _ _ _
  obtain ⟨K, hK⟩ : ∃ K : Nat, 7000000 ≤ K := ⟨_, Nat.le_refl _⟩
  refine ⟨K + 1, ?_⟩
  unfold laws_FnLayouts.f laws_big.f
  rw [Option.bind_some]
  by_cases hb : (c.length : Int) > 1048576
  · rw [if_pos (decide_eq_true hb)]
  rw [if_neg (by simpa using hb)]
  obtain ⟨i0, s0, e0, c0⟩ := l1New_ex c (by omega) (K + 1) (by omega)
  obtain ⟨l, i1, s1, e1, hs, c1⟩ := drawList_ex c i0 s0 c0 (K + 1) (by omega)
  have ed : spec_DrawLayout.f (K + 1) c = some l := by
    unfold spec_DrawLayout.f
    rw [e0, Option.bind_some]
    dsimp only
    rw [e1, Option.bind_some]
  have hp : partsIn l := fun x hx => by have := hs.2 x hx; exact ⟨by have := this.1; omega, by have := this.2.1; omega, by have := this.2.2.1; omega, fun y hy => by have := this.2.2.2 y hy; omega⟩
  rw [ed, Option.bind_some, implLayout_eq l hp (K + 1) (by omega), Option.bind_some, specLayout_eq l hp (by have := hs.1; omega) (K + 1) (by omega), Option.bind_some, if_neg (by simp)]
  have hlen : (layV l).1.length ≤ 4 := by
    unfold layV; split
    · rw [outTo_len]; exact hs.1
    · simp
  rw [sameInts_same _ (by omega) (K + 1) (by omega), Option.bind_some, Bool.not_true, laws_FnLayouts.j0, if_neg (by simp)]
  by_cases hb : layB l = true
  · have e : layV l = (outTo l l.length, true) := by unfold layV; rw [if_pos hb]
    rw [e]
    exact layouts_l0 l hs hb l.length 0 K (by omega) (by have := hs.1; omega)
  · have e : layV l = ([], false) := by unfold layV; rw [if_neg hb]
    rw [e]
    obtain ⟨K, rfl⟩ : ∃ q, K = q + 1 := ⟨K - 1, by omega⟩
    simp only [laws_FnLayouts.l0]
    rw [if_neg (by simp), if_neg (by simp)]
    rfl
end Go.Proofs.Ytnekcbajadnldaa.Pure
