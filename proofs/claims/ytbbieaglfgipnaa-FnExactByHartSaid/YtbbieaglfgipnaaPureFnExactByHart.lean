/- For all numbers of harts and traces, the program's ByHart returns what the reference's ByHart returns, keeps its argument, and its result is its own: no conditions. -/
import Derived.Test.YtbbieaglfgipnaaPFnExactByHartx5
namespace Go.Proofs.Ytbbieaglfgipnaa.Pure
open Go.RowKit Go.Proofs.Ytbbieaglfgipnaa.PFnExactByHart Go.Proofs.YtbbieaglfgipnaaW.PrintWords Go.Proofs.YtbbieaglfgipnaaW.PrintLast
set_option linter.unusedVariables false
set_option linter.unusedSimpArgs false

theorem wrap_small {x : Int} (h0 : -9223372036854775808 ≤ x) (h : x ≤ 9223372036854775807) : wrap64 x = x := by
  unfold wrap64; omega
theorem wrap_succ {i : Nat} (h : i < 4611686018427387904) : wrap64 ((i : Int) + 1) = ((i + 1 : Nat) : Int) := by
  unfold wrap64; omega
theorem rd_nat (l : List Int) (i : Nat) (h : i < l.length) : rd l (i : Int) = l[i] := by
  unfold rd; simp [List.getD, h]
theorem rd_mem (l : List Int) (i : Nat) (h : i < l.length) : rd l (i : Int) ∈ l := by
  rw [rd_nat l i h]; exact List.getElem_mem h
/-- A loop whose state is known ahead of each round. -/
theorem for_st {σ ρ : Type} (n : Nat) (L : Nat → Nat → σ → Option ρ) (st : Nat → σ) (r : ρ) (hs : ∀ k i, i < n → L (k + 1) i (st i) = L k (i + 1) (st (i + 1))) (he : ∀ k, L (k + 1) n (st n) = some r) :
    ∀ (k i : Nat), i ≤ n → n < i + k → L k i (st i) = some r
  | 0, i, hi, hk => by omega
  | k + 1, i, hi, hk => by
    by_cases h : i < n
    · rw [hs k i h]; exact for_st n L st r hs he k (i + 1) (by omega) (by omega)
    · have : i = n := by omega
      subst this; exact he k
/-- A loop that ends at the first place where p holds. -/
theorem for_find {ρ : Type} (n : Nat) (L : Nat → Nat → Option ρ) (p : Nat → Prop) (b : Nat → ρ) (r : ρ) (hs : ∀ k i, i < n → ¬ p i → L (k + 1) i = L k (i + 1)) (hb : ∀ k i, i < n → p i → L (k + 1) i = some (b i)) (he : ∀ k, L (k + 1) n = some r) :
    ∀ (k i : Nat), i ≤ n → n < i + k → (∃ j, i ≤ j ∧ j < n ∧ p j ∧ (∀ m, i ≤ m → m < j → ¬ p m) ∧ L k i = some (b j)) ∨ (∀ j, i ≤ j → j < n → ¬ p j) ∧ L k i = some r
  | 0, i, hi, hk => by omega
  | k + 1, i, hi, hk => by
    by_cases h : i < n
    · by_cases hp : p i
      · exact .inl ⟨i, Nat.le_refl _, h, hp, fun m h1 h2 => by omega, hb k i h hp⟩
      · rw [hs k i h hp]
        rcases for_find n L p b r hs hb he k (i + 1) (by omega) (by omega) with ⟨j, h1, h2, h3, h4, h5⟩ | ⟨h1, h2⟩
        · refine .inl ⟨j, by omega, h2, h3, fun m hm1 hm2 => ?_, h5⟩
          by_cases e : m = i
          · subst e; exact hp
          · exact h4 m (by omega) hm2
        · refine .inr ⟨fun j hj1 hj2 => ?_, h2⟩
          by_cases e : j = i
          · subst e; exact hp
          · exact h1 j (by omega) hj2
    · have : i = n := by omega
      subst this; exact .inr ⟨fun j h1 h2 => by omega, he k⟩
/-- The same for a Bool: do all places pass? -/
theorem for_all {n : Nat} {L : Nat → Nat → Option Bool} (p : Nat → Prop) (hs : ∀ k i, i < n → p i → L (k + 1) i = L k (i + 1)) (hb : ∀ k i, i < n → ¬ p i → L (k + 1) i = some false) (c : Bool) (he : ∀ k, L (k + 1) n = some c) {q : Bool}
    (hq : q = true ↔ (∀ j, j < n → p j) ∧ c = true) (k : Nat) (hk : n < k) : L k 0 = some q := by
  rcases for_find n L (fun i => ¬ p i) (fun _ => false) c (fun k i h hp => hs k i h (Classical.not_not.1 hp)) (fun k i h hp => hb k i h hp) he k 0 (Nat.zero_le _) (by omega) with ⟨j, _, h2, h3, _, h5⟩ | ⟨h1, h2⟩
  · rw [h5]; congr 1; symm
    rw [Bool.eq_false_iff]; intro hh; exact h3 ((hq.1 hh).1 j h2)
  · rw [h2]; congr 1
    have : ∀ j, j < n → p j := fun j hj => Classical.not_not.1 (h1 j (Nat.zero_le _) hj)
    rw [Bool.eq_iff_iff, hq]; exact ⟨fun h => ⟨this, h⟩, fun h => h.2⟩
/-- What is written, place by place. -/
theorem set_step {α : Type} (a b : List α) (i : Nat) (hi : i < a.length) (hb : b.length = a.length) : (a.take i ++ b.drop i).set i (a[i]'hi) = a.take (i + 1) ++ b.drop (i + 1) := by
  rw [List.set_append_right _ _ (by simp; omega), List.length_take, Nat.min_eq_left (by omega), Nat.sub_self, List.take_succ_eq_append_getElem hi, List.append_assoc]
  congr 1
  rw [List.drop_eq_getElem_cons (by omega)]
  rfl
theorem snoc_step {α : Type} (a : List α) (i : Nat) (hi : i < a.length) : a.take i ++ [a[i]'hi] = a.take (i + 1) := by
  rw [List.take_succ_eq_append_getElem hi]
theorem eq_iff_all (a b : List Int) (h : a.length = b.length) : a = b ↔ ∀ j, j < a.length → rd a (j : Int) = rd b (j : Int) := by
  constructor
  · rintro rfl j _; rfl
  · intro hh; refine List.ext_getElem h (fun j h1 h2 => ?_)
    have := hh j h1
    rwa [rd_nat a j h1, rd_nat b j h2] at this
/-- What marks hold: s, s + 1, .. -/
def iota (s : Int) (n : Nat) : List Int := (List.range n).map fun (i : Nat) => s + (i : Int)
theorem iota_length (s : Int) (n : Nat) : (iota s n).length = n := by simp [iota]
theorem iota_get (s : Int) (n i : Nat) (h : i < n) : (iota s n)[i]'(by rw [iota_length]; exact h) = s + i := by simp [iota]
/-- The same as bytes. -/
def iota8 (s : Int) (n : Nat) : List Int := (List.range n).map fun (i : Nat) => (s + (i : Int)) % 256
theorem iota8_length (s : Int) (n : Nat) : (iota8 s n).length = n := by simp [iota8]
theorem iota8_get (s : Int) (n i : Nat) (h : i < n) : (iota8 s n)[i]'(by rw [iota8_length]; exact h) = (s + i) % 256 := by simp [iota8]
theorem wraps_i64 (n : Int) (h0 : 0 ≤ n) (h1 : n < 2 ^ 62) : IntKind.i64.wrap n = n := by rw [IntKind.wrap_i64]; omega
theorem and255 (x : Int) (h0 : 0 ≤ x) (h : x ≤ 65535) : Go.bits .and .i64 x 255 = x % 256 := bits_mask .i64 62 (by decide) wraps_i64 8 (by decide) x h0 (by omega)
/-- Does a search find something. -/
theorem idx_any {n : Nat} (L : Nat → Nat → Option Int) (q : Nat → Bool) (hs : ∀ k i, i < n → q i = false → L (k + 1) i = L k (i + 1)) (hb : ∀ k i, i < n → q i = true → L (k + 1) i = some (i : Int)) (he : ∀ k, L (k + 1) n = some (-1)) (r : Bool)
    (hr : r = true ↔ ∃ j, j < n ∧ q j = true) (k : Nat) (hk : n < k) : ∃ v, L k 0 = some v ∧ decide (v ≥ 0) = r := by
  rcases for_find n L (fun i => q i = true) (fun i => (i : Int)) (-1) (fun k i h hp => hs k i h (by simpa using hp)) hb he k 0 (Nat.zero_le _) (by omega) with ⟨j, _, h2, h3, _, h5⟩ | ⟨h1, h2⟩
  · refine ⟨_, h5, ?_⟩
    rw [decide_eq_true (by omega : (j : Int) ≥ 0)]; exact (hr.2 ⟨j, h2, h3⟩).symm
  · refine ⟨_, h2, ?_⟩
    rw [decide_eq_false (by omega : ¬ (-1 : Int) ≥ 0)]; symm; rw [Bool.eq_false_iff]; intro hh
    obtain ⟨j, hj, hq⟩ := hr.1 hh
    exact h1 j (Nat.zero_le _) hj hq
/-- A count that goes down, item by item, and stops below nothing. -/
theorem sz_loop {n C : Nat} {M : Int} (L : Nat → Nat → Int → Option Int) (P : Nat → Prop) (hs : ∀ k i a, i < n → C ≤ k → 0 ≤ a → a ≤ M → (∃ r, r < 0 ∧ L (k + 1) i a = some r) ∨ ∃ t, 0 ≤ t ∧ t ≤ a ∧ P i ∧ L (k + 1) i a = L k (i + 1) t)
    (he : ∀ k a, L (k + 1) n a = some a) : ∀ (m i : Nat) (a : Int), i ≤ n → n < i + m → 0 ≤ a → a ≤ M → ∃ r, L (m + C) i a = some r ∧ r ≤ a ∧ (0 ≤ r → ∀ j, i ≤ j → j < n → P j)
  | 0, i, a, hi, hm, _, _ => by omega
  | m + 1, i, a, hi, hm, h0, h1 => by
    rw [show m + 1 + C = (m + C) + 1 by omega]
    by_cases h : i < n
    · rcases hs (m + C) i a h (by omega) h0 h1 with ⟨r, hr, e⟩ | ⟨t, ht0, ht, hp, e⟩
      · exact ⟨r, e, by omega, fun h => by omega⟩
      · obtain ⟨r, e2, hr, hq⟩ := sz_loop L P hs he m (i + 1) t (by omega) (by omega) ht0 (by omega)
        refine ⟨r, by rw [e, e2], by omega, fun h0 j hj1 hj2 => ?_⟩
        by_cases c : j = i
        · subst c; exact hp
        · exact hq h0 j (by omega) hj2
    · have : i = n := by omega
      subst this
      exact ⟨a, he _ _, Int.le_refl _, fun _ j h1 h2 => by omega⟩
/-- A list made place by place. -/
theorem to_loop {α : Type} {C : Nat} (v z : List α) (hz : z.length = v.length) (L : Nat → Nat → List α → Option (List α)) (hs : ∀ k i s (hi : i < v.length), C ≤ k → s.length = v.length → L (k + 1) i s = L k (i + 1) (s.set i (v[i]'hi)))
    (he : ∀ k s, L (k + 1) v.length s = some s) (k : Nat) (hk : v.length + C < k) : L k 0 z = some v := by
  have h := for_st v.length (fun k' i (s : List α) => L (k' + C) i s) (fun i => v.take i ++ z.drop i) v ?_ ?_ (k - C) 0 (Nat.zero_le _) (by omega)
  · rw [show k - C + C = k by omega] at h; simpa using h
  · intro k' i hi
    rw [show k' + 1 + C = (k' + C) + 1 by omega, hs _ _ _ hi (by omega) (by simp; omega), set_step _ _ _ hi hz]
  · intro k'
    rw [show k' + 1 + C = (k' + C) + 1 by omega, he, List.take_of_length_le (Nat.le_refl _), List.drop_of_length_le (by omega), List.append_nil]
/-- Equal, place by place. -/
theorem same_loop {n C : Nat} (L : Nat → Nat → Option Bool) (hs : ∀ k i, i < n → C ≤ k → L (k + 1) i = L k (i + 1)) (he : ∀ k, L (k + 1) n = some true) (k : Nat) (hk : n + C < k) : L k 0 = some true := by
  have h := for_st n (fun k' i (_ : Unit) => L (k' + C) i) (fun _ => ()) true ?_ ?_ (k - C) 0 (Nat.zero_le _) (by omega)
  · rw [show k - C + C = k by omega] at h; exact h
  · intro k' i hi; rw [show k' + 1 + C = (k' + C) + 1 by omega, hs _ _ hi (by omega)]
  · intro k'; rw [show k' + 1 + C = (k' + C) + 1 by omega, he]
def wordsB (l : List Int) (n : Int) : Bool := decide ((l.length : Int) = n) && l.all (fun x => decide (0 ≤ x ∧ x ≤ 65535))
theorem wordsB_mem {l : List Int} {n : Int} (h : wordsB l n = true) (x : Int) (hx : x ∈ l) : 0 ≤ x ∧ x ≤ 65535 := by
  unfold wordsB at h; rw [Bool.and_eq_true, List.all_eq_true] at h; exact of_decide_eq_true (h.2 x hx)
/-- Is it a hart: four words, a cell, a state. -/
def hartB (regs : List Int) (pc st : Int) : Bool := wordsB regs 4 && (decide (0 ≤ pc ∧ pc ≤ 23) && decide (0 ≤ st ∧ st ≤ 2))
theorem ite_some' (b c : Bool) : (if b = true then some c else some false) = some (b && c) := by cases b <;> rfl
theorem hartB_len {r : List Int} {p s : Int} (h : hartB r p s = true) : r.length = 4 := by
  unfold hartB wordsB at h; rw [Bool.and_eq_true, Bool.and_eq_true] at h; have := of_decide_eq_true h.1.1; omega
theorem wordsB_24 {l : List Int} (h : wordsB l 24 = true) : l.length = 24 := by unfold wordsB at h; rw [Bool.and_eq_true] at h; have := of_decide_eq_true h.1; omega
theorem tmod_pos (n c : Int) (h : 0 ≤ n) : Int.tmod n c = n % c := Int.tmod_eq_emod_of_nonneg h
theorem tmod_neg (n c : Int) (h : n < 0) : Int.tmod n c = -((-n) % c) := by
  rw [← Int.tmod_eq_emod_of_nonneg (by omega : 0 ≤ -n), Int.neg_tmod, Int.neg_neg]
theorem tdiv_pos (n c : Int) (h : 0 ≤ n) : Int.tdiv n c = n / c := Int.tdiv_eq_ediv_of_nonneg h
/-- A remainder brought up from below nothing. -/
theorem tmod_up (n c : Int) (hc : 0 < c) (hb : c ≤ 4294967296) : Int.tmod (Int.tmod n c + c) c = n % c := by
  have h1 := Int.emod_nonneg n (by omega : c ≠ 0)
  have h2 := Int.emod_lt_of_pos n hc
  rcases Int.lt_or_le n 0 with h | h
  · rw [tmod_neg n c h]
    have h3 := Int.emod_nonneg (-n) (by omega : c ≠ 0)
    have h4 := Int.emod_lt_of_pos (-n) hc
    rw [tmod_pos _ _ (by omega), Int.add_emod_right, ← Int.sub_emod_right]
    have := Int.emod_add_mul_ediv (-n) c
    have e : -(-n % c) - c = n + c * ((-n) / c - 1) := by
      have : n = -(-n % c) - c * ((-n) / c) := by omega
      rw [Int.mul_sub]; omega
    rw [e, Int.add_mul_emod_self_left]
  · rw [tmod_pos n c h, tmod_pos _ _ (by omega), Int.add_emod_right, Int.emod_emod_of_dvd _ (Int.dvd_refl c)]
theorem tmod_bd (n c : Int) (hc : 0 < c) : -c < Int.tmod n c ∧ Int.tmod n c < c := by
  rcases Int.lt_or_le n 0 with h | h
  · rw [tmod_neg n c h]
    have h3 := Int.emod_nonneg (-n) (by omega : c ≠ 0)
    have h4 := Int.emod_lt_of_pos (-n) hc
    omega
  · rw [tmod_pos n c h]
    have h3 := Int.emod_nonneg n (by omega : c ≠ 0)
    have h4 := Int.emod_lt_of_pos n hc
    omega
/-- for_st, where some rounds stay over. -/
theorem for_stC {σ ρ : Type} (C n : Nat) (L : Nat → Nat → σ → Option ρ) (st : Nat → σ) (r : ρ) (hs : ∀ k i, C ≤ k → i < n → L (k + 1) i (st i) = L k (i + 1) (st (i + 1))) (he : ∀ k, C ≤ k → L (k + 1) n (st n) = some r) :
    ∀ (k i : Nat), i ≤ n → n + C < i + k → L k i (st i) = some r
  | 0, i, hi, hk => by omega
  | k + 1, i, hi, hk => by
    by_cases h : i < n
    · rw [hs k i (by omega) h]; exact for_stC C n L st r hs he k (i + 1) (by omega) (by omega)
    · have : i = n := by omega
      subst this; exact he k (by omega)
theorem l1In_eq (x lo hi : Int) : spec_l1In.f x lo hi = some (decide (lo ≤ x ∧ x ≤ hi)) := by
  unfold spec_l1In.f
  by_cases h : x ≥ lo
  · rw [if_pos h]; have h' : lo ≤ x := h; simp [h']
  · rw [if_neg h]; have h' : ¬ lo ≤ x := h; simp [h']
theorem from_eq (x lo hi : Int) : impl_from.f x lo hi = some (decide (lo ≤ x ∧ x ≤ hi)) := by
  unfold impl_from.f
  by_cases h : x ≥ lo
  · rw [if_pos h]; have h' : lo ≤ x := h; simp [h']
  · rw [if_neg h]; have h' : ¬ lo ≤ x := h; simp [h']
theorem szEventS_ex (l : List S76) (hm : l.length ≤ maxLen) : ∃ r, laws_szEventS.f l 1048576 = some r ∧ (0 ≤ r → l.length ≤ 1048576) := by
  unfold laws_szEventS.f
  have e : wrap64 (1048576 - (l.length : Int)) = 1048576 - (l.length : Int) := by
    unfold maxLen at hm; unfold wrap64; omega
  rw [e]
  by_cases h : (1048576 : Int) - (l.length : Int) < 0
  · rw [if_pos h]; exact ⟨_, rfl, fun h => by omega⟩
  · rw [if_neg h]; exact ⟨_, rfl, fun _ => by omega⟩
def toEventV (x : S76) : S72 := ⟨x.f0, x.f1, x.f2, x.f3, x.f4⟩
theorem rdLEvent (l : List S76) (i : Nat) (h : i < l.length) : rd_T76 l (i : Int) = l[i] := by
  unfold rd_T76; simp [List.getD, h]
theorem toEventS_eq (l : List S76) (hl : l.length ≤ 1048576) (k : Nat) (hk : 2200000 < k) : laws_toEventS.f k l = some (l.map toEventV) := by
  unfold laws_toEventS.f
  rw [if_pos (by omega), if_pos (by simp; omega)]
  have h := for_st l.length (fun k' i (s : List S72) => laws_toEventS.l0 k' l s (i : Int)) (fun i => (l.map toEventV).take i ++ (List.replicate l.length z72).drop i) (l.map toEventV) ?_ ?_ k 0 (Nat.zero_le _) (by omega)
  · simpa using h
  · intro k' i hi
    rw [laws_toEventS.l0]
    rw [if_pos (by omega), if_pos (by omega), rdLEvent l i hi, laws_toEvent.f, Option.bind_some, if_pos (by simp; omega), wrap_succ (by omega)]
    simp only [Int.toNat_natCast]
    have e : (⟨(l[i]).f0, (l[i]).f1, (l[i]).f2, (l[i]).f3, (l[i]).f4⟩ : S72) = (l.map toEventV)[i]'(by simpa using hi) := by simp [toEventV]
    rw [e, set_step _ _ _ (by simpa using hi) (by simp)]
  · intro k'
    rw [laws_toEventS.l0]
    rw [if_neg (by omega)]; simp [List.take_of_length_le]
theorem rdEvent (l : List S72) (i : Nat) (h : i < l.length) : rd_T72 l (i : Int) = l[i] := by
  unfold rd_T72; simp [List.getD, h]
theorem eqEvent_same (a b c d e : Int) : laws_eqEvent.f a b c d e a b c d e = some true := by
  unfold laws_eqEvent.f; simp
theorem eqEventS_same (l : List S72) (hl : l.length ≤ 1048576) (k : Nat) (hk : l.length < k) : laws_eqEventS.f k l l = some true := by
  unfold laws_eqEventS.f
  rw [if_pos rfl]
  have h := for_st l.length (fun k' i (_ : Unit) => laws_eqEventS.l0 k' l l (i : Int)) (fun _ => ()) true ?_ ?_ k 0 (Nat.zero_le _) (by omega)
  · exact h
  · intro k' i hi
    rw [laws_eqEventS.l0]
    rw [if_pos (by omega), if_pos (by omega), if_pos (by omega), rdEvent l i hi, eqEvent_same, Option.bind_some, if_pos rfl, wrap_succ (by omega)]
  · intro k'
    rw [laws_eqEventS.l0]
    rw [if_neg (by omega)]
theorem markEventS_ex (n : Nat) (hn : n ≤ 1048576) : ∀ (d i : Nat) (x : List S72) (s : Int) (k : Nat), x.length = n → i + d = n → 0 ≤ s → s ≤ 1000000000 + 5 * (i : Int) → d < k → ∃ v, laws_markEventS.l0 k x s (i : Int) = some (s + 5 * (d : Int), v)
  | 0, i, x, s, k, hx, hi, h0, h1, hk => by
    obtain ⟨k, rfl⟩ : ∃ m, k = m + 1 := ⟨k - 1, by omega⟩
    rw [laws_markEventS.l0, if_neg (by omega)]
    exact ⟨x, by simp⟩
  | d + 1, i, x, s, k, hx, hi, h0, h1, hk => by
    obtain ⟨k, rfl⟩ : ∃ m, k = m + 1 := ⟨k - 1, by omega⟩
    rw [laws_markEventS.l0, if_pos (by omega), if_pos (by omega)]
    simp only [Option.bind_some]
    rw [wrap_succ (by omega)]
    simp only [wrap_small (x := s + 1) (by omega) (by omega), wrap_small (x := s + 1 + 1) (by omega) (by omega), wrap_small (x := s + 1 + 1 + 1) (by omega) (by omega), wrap_small (x := s + 1 + 1 + 1 + 1) (by omega) (by omega), wrap_small (x := s + 1 + 1 + 1 + 1 + 1) (by omega) (by omega)]
    have key : ∀ x' : List S72, x'.length = n → ∃ v, laws_markEventS.l0 k x' (s + 1 + 1 + 1 + 1 + 1) ((i + 1 : Nat) : Int) = some (s + 5 * ((d + 1 : Nat) : Int), v) := fun x' hx' => by
      obtain ⟨v, hv⟩ := markEventS_ex n hn d (i + 1) x' (s + 1 + 1 + 1 + 1 + 1) k hx' (by omega) (by omega) (by omega) (by omega)
      exact ⟨v, by rw [hv]; congr 2; omega⟩
    exact key _ (by simp only [List.length_set]; exact hx)
theorem rdDid (l : List S74) (i : Nat) (h : i < l.length) : rd_T74 l (i : Int) = l[i] := by
  unfold rd_T74; simp [List.getD, h]
def markD (s : Int) (i : Nat) : S74 := ⟨s + 3 * (i : Int), s + 3 * (i : Int) + 1, s + 3 * (i : Int) + 2⟩
def marksD (s : Int) (n : Nat) : List S74 := (List.range n).map (markD s)
theorem marksD_length (s : Int) (n : Nat) : (marksD s n).length = n := by simp [marksD]
theorem marksD_get (s : Int) (n i : Nat) (h : i < n) : (marksD s n)[i]'(by rw [marksD_length]; exact h) = markD s i := by simp [marksD]
theorem rdD_set (l : List S74) (i : Nat) (v : S74) (h : i < l.length) : rd_T74 (l.set i v) (i : Int) = v := by
  rw [rdDid _ i (by simpa using h)]; simp
theorem markDidS_eq (l : List S74) (s : Int) (h0 : 0 ≤ s) (h1 : s ≤ 1152921504606846976) (hl : l.length ≤ 2097152) (k : Nat) (hk : l.length < k) : laws_markDidS.f k l s = some (s + 3 * (l.length : Int), marksD s l.length) := by
  unfold laws_markDidS.f
  have h := for_st l.length (fun k i (t : List S74 × Int) => laws_markDidS.l0 k t.1 t.2 (i : Int)) (fun i => ((marksD s l.length).take i ++ l.drop i, s + 3 * (i : Int))) (s + 3 * (l.length : Int), marksD s l.length) ?_ ?_ k 0 (Nat.zero_le _) (by omega)
  · simpa using h
  · intro k i hi
    have hlen : ((marksD s l.length).take i ++ l.drop i).length = l.length := by rw [List.length_append, List.length_take, List.length_drop, marksD_length]; omega
    have hs := set_step (marksD s l.length) l i (by rw [marksD_length]; exact hi) (by rw [marksD_length])
    rw [marksD_get s l.length i hi] at hs
    dsimp only
    generalize (marksD s l.length).take i ++ l.drop i = x at hlen hs ⊢
    rw [laws_markDidS.l0, if_pos (by omega), if_pos (by omega)]
    simp only [Option.bind_some, Int.toNat_natCast]
    have r1 : ∀ v, rd_T74 (x.set i v) (i : Int) = v := fun v => rdD_set x i v (by omega)
    simp only [List.set_set, r1]
    rw [wrap_succ (by omega)]
    simp only [wrap_small (x := s + 3 * (i : Int) + 1) (by omega) (by omega), wrap_small (x := s + 3 * (i : Int) + 1 + 1) (by omega) (by omega), wrap_small (x := s + 3 * (i : Int) + 1 + 1 + 1) (by omega) (by omega)]
    rw [← hs]
    have e : (⟨s + 3 * (i : Int), s + 3 * (i : Int) + 1, s + 3 * (i : Int) + 1 + 1⟩ : S74) = markD s i := by
      unfold markD; congr 1 <;> omega
    rw [e]; congr 1; omega
  · intro k
    dsimp only
    rw [laws_markDidS.l0, if_neg (by simp [marksD_length])]
    simp [List.take_of_length_le, marksD_length]
theorem heldDidS_eq (s : Int) (n : Nat) (h0 : 0 ≤ s) (h1 : s ≤ 1152921504606846976) (hl : n ≤ 2097152) (k : Nat) (hk : n < k) : laws_heldDidS.f k (marksD s n) s = some (s + 3 * (n : Int)) := by
  unfold laws_heldDidS.f
  have h := for_st n (fun k i (t : Int) => laws_heldDidS.l0 k (marksD s n) t (i : Int)) (fun i => s + 3 * (i : Int)) (s + 3 * (n : Int)) ?_ ?_ k 0 (Nat.zero_le _) (by omega)
  · simpa using h
  · intro k i hi
    rw [laws_heldDidS.l0, if_pos (by rw [marksD_length]; omega), if_pos (by omega), rdDid _ i (by rw [marksD_length]; exact hi), marksD_get s n i hi]
    simp only [wrap_small (x := s + 3 * (i : Int) + 1) (by omega) (by omega), wrap_small (x := s + 3 * (i : Int) + 1 + 1) (by omega) (by omega), wrap_small (x := s + 3 * (i : Int) + 1 + 1 + 1) (by omega) (by omega)]
    unfold markD
    rw [if_pos rfl, if_pos rfl, if_pos (by dsimp only; omega), wrap_succ (by omega)]
    congr 1; omega
  · intro k
    rw [laws_heldDidS.l0, if_neg (by rw [marksD_length]; omega)]
theorem eqDid_same (a b c : Int) : laws_eqDid.f a b c a b c = some true := by unfold laws_eqDid.f; simp
theorem eqDidS_same (l : List S74) (hl : l.length ≤ 2097152) (k : Nat) (hk : l.length < k) : laws_eqDidS.f k l l = some true := by
  unfold laws_eqDidS.f
  rw [if_pos rfl]
  have h := for_st l.length (fun k' i (_ : Unit) => laws_eqDidS.l0 k' l l (i : Int)) (fun _ => ()) true ?_ ?_ k 0 (Nat.zero_le _) (by omega)
  · exact h
  · intro k' i hi
    rw [laws_eqDidS.l0, if_pos (by omega), if_pos (by omega), if_pos (by omega), rdDid l i hi, eqDid_same, Option.bind_some, if_pos rfl, wrap_succ (by omega)]
  · intro k'
    rw [laws_eqDidS.l0, if_neg (by omega)]
theorem rdL (l : List (List S74)) (i : Nat) (h : i < l.length) : rd_L4 l (i : Int) = l[i] := by
  unfold rd_L4; simp [List.getD, h]
/-- Rows marked, one behind the other. -/
def marksSS : List (List S74) → Int → List (List S74) × Int
  | [], s => ([], s)
  | h :: t, s => (marksD s h.length :: (marksSS t (s + 3 * (h.length : Int))).1, (marksSS t (s + 3 * (h.length : Int))).2)
theorem marksSS_le : ∀ (l : List (List S74)) (s : Int), s ≤ (marksSS l s).2
  | [], s => Int.le_refl _
  | h :: t, s => by have := marksSS_le t (s + 3 * (h.length : Int)); simp only [marksSS]; omega
theorem marksSS_bd : ∀ (l : List (List S74)) (s : Int), (∀ h ∈ l, h.length ≤ 2097152) → (marksSS l s).2 ≤ s + (l.length : Int) * 6291456
  | [], s, _ => by simp [marksSS]
  | h :: t, s, hx => by
    have h1 := marksSS_bd t (s + 3 * (h.length : Int)) (fun y hy => hx y (List.mem_cons_of_mem _ hy))
    have h2 := hx h (List.mem_cons_self ..)
    simp only [marksSS, List.length_cons]; omega
theorem markSS_l : ∀ (t p : List (List S74)) (s : Int) (k : Nat), 0 ≤ s → (marksSS t s).2 ≤ 1152921504606846976 → (∀ h ∈ t, h.length ≤ 2097152) → p.length + t.length ≤ 2097152 → t.length + 2097160 < k →
    laws_markDidSS.l0 k (p ++ t) s (p.length : Int) = some ((marksSS t s).2, p ++ (marksSS t s).1)
  | [], p, s, k, h0, hb, hx, hl, hk => by
    obtain ⟨k, rfl⟩ : ∃ m, k = m + 1 := ⟨k - 1, by omega⟩
    rw [laws_markDidSS.l0, if_neg (by simp)]; rfl
  | h :: t, p, s, k, h0, hb, hx, hl, hk => by
    obtain ⟨k, rfl⟩ : ∃ m, k = m + 1 := ⟨k - 1, by omega⟩
    simp only [List.length_cons] at hl hk
    have hh := hx h (List.mem_cons_self ..)
    have hm := marksSS_le t (s + 3 * (h.length : Int))
    simp only [marksSS] at hb
    have e1 : (p ++ h :: t).getD (p.length : Int).toNat [] = h := by rw [Int.toNat_natCast, List.getD_eq_getElem?_getD]; simp
    rw [laws_markDidSS.l0, if_pos (by simp; omega), if_pos (by omega), e1, markDidS_eq h s h0 (by omega) (by omega) k (by omega), Option.bind_some]
    dsimp only
    rw [wrap_succ (by omega), Int.toNat_natCast, List.set_append_right _ _ (Nat.le_refl _), Nat.sub_self, List.set_cons_zero]
    have := markSS_l t (p ++ [marksD s h.length]) (s + 3 * (h.length : Int)) k (by omega) hb (fun y hy => hx y (List.mem_cons_of_mem _ hy)) (by simp; omega) (by omega)
    simp only [List.append_assoc, List.singleton_append, List.length_append, List.length_singleton] at this
    rw [this]; rfl
theorem markSS_eq (t : List (List S74)) (s : Int) (h0 : 0 ≤ s) (hb : (marksSS t s).2 ≤ 1152921504606846976) (hx : ∀ h ∈ t, h.length ≤ 2097152) (hl : t.length ≤ 2097152) (k : Nat) (hk : 4200000 < k) : laws_markDidSS.f k t s = some ((marksSS t s).2, (marksSS t s).1) := by
  unfold laws_markDidSS.f
  have := markSS_l t [] s k h0 hb hx (by simp; omega) (by omega)
  simpa using this
theorem heldSS_l : ∀ (t p : List (List S74)) (s : Int) (k : Nat), 0 ≤ s → (marksSS t s).2 ≤ 1152921504606846976 → (∀ h ∈ t, h.length ≤ 2097152) → p.length + t.length ≤ 2097152 → t.length + 2097160 < k →
    laws_heldDidSS.l0 k (p ++ (marksSS t s).1) s (p.length : Int) = some (marksSS t s).2
  | [], p, s, k, h0, hb, hx, hl, hk => by
    obtain ⟨k, rfl⟩ : ∃ m, k = m + 1 := ⟨k - 1, by omega⟩
    rw [laws_heldDidSS.l0, if_neg (by simp [marksSS])]; rfl
  | h :: t, p, s, k, h0, hb, hx, hl, hk => by
    obtain ⟨k, rfl⟩ : ∃ m, k = m + 1 := ⟨k - 1, by omega⟩
    simp only [List.length_cons] at hl hk
    have hh := hx h (List.mem_cons_self ..)
    have hm := marksSS_le t (s + 3 * (h.length : Int))
    simp only [marksSS] at hb ⊢
    have e1 : ∀ (a : List S74) (q : List (List S74)), rd_L4 (p ++ a :: q) (p.length : Int) = a := fun a q => by rw [rdL _ _ (by simp)]; simp
    rw [laws_heldDidSS.l0, if_pos (by simp; omega), if_pos (by omega), e1, heldDidS_eq s h.length h0 (by omega) (by omega) k (by omega), Option.bind_some, if_neg (by omega), wrap_succ (by omega)]
    have := heldSS_l t (p ++ [marksD s h.length]) (s + 3 * (h.length : Int)) k (by omega) hb (fun y hy => hx y (List.mem_cons_of_mem _ hy)) (by simp; omega) (by omega)
    simp only [List.append_assoc, List.singleton_append, List.length_append, List.length_singleton] at this
    rw [this]
theorem heldSS_eq (t : List (List S74)) (s : Int) (h0 : 0 ≤ s) (hb : (marksSS t s).2 ≤ 1152921504606846976) (hx : ∀ h ∈ t, h.length ≤ 2097152) (hl : t.length ≤ 2097152) (k : Nat) (hk : 4200000 < k) : laws_heldDidSS.f k (marksSS t s).1 s = some (marksSS t s).2 := by
  unfold laws_heldDidSS.f
  have := heldSS_l t [] s k h0 hb hx (by simp; omega) (by omega)
  simpa using this
theorem eqSS_same (l : List (List S74)) (hl : l.length ≤ 2097152) (hx : ∀ h ∈ l, h.length ≤ 2097152) (k : Nat) (hk : 4200000 < k) : laws_eqDidSS.f k l l = some true := by
  unfold laws_eqDidSS.f
  rw [if_pos rfl]
  have h := for_stC 2097160 l.length (fun k' i (_ : Unit) => laws_eqDidSS.l0 k' l l (i : Int)) (fun _ => ()) true ?_ ?_ k 0 (Nat.zero_le _) (by omega)
  · exact h
  · intro k' i hk' hi
    have hh := hx _ (List.getElem_mem hi)
    rw [laws_eqDidSS.l0, if_pos (by omega), if_pos (by omega), if_pos (by omega), rdL l i hi, eqDidS_same _ hh k' (by omega), Option.bind_some, if_pos rfl, wrap_succ (by omega)]
  · intro k' hk'
    rw [laws_eqDidSS.l0, if_neg (by omega)]
/-- What one hart did, up to an event. -/
def didOf (e : S72) : S74 := ⟨e.f2, e.f3, e.f4⟩
def dids (l : List S72) (w : Int) : Nat → List S74
  | 0 => []
  | i + 1 => if (rd_T72 l (i : Int)).f0 = w ∧ (rd_T72 l (i : Int)).f2 ≥ 0 then dids l w i ++ [didOf (rd_T72 l (i : Int))] else dids l w i
theorem dids_len (l : List S72) (w : Int) : ∀ i, (dids l w i).length ≤ i
  | 0 => Nat.le_refl _
  | i + 1 => by
    have := dids_len l w i
    unfold dids; split
    · rw [List.length_append]; simp; omega
    · omega
def byTo (l : List S72) (n i : Nat) : List (List S74) := (List.range n).map fun (w : Nat) => dids l (w : Int) i
theorem byTo_len (l : List S72) (n i : Nat) : (byTo l n i).length = n := by simp [byTo]
theorem byTo_get (l : List S72) (n i w : Nat) (h : w < n) : (byTo l n i)[w]'(by rw [byTo_len]; exact h) = dids l (w : Int) i := by simp [byTo]
theorem byTo_mem (l : List S72) (n i : Nat) : ∀ h ∈ byTo l n i, h.length ≤ i := by
  intro h hh
  obtain ⟨w, _, rfl⟩ := List.mem_map.1 hh
  exact dids_len _ _ _
def byV (n : Int) (l : List S72) : List (List S74) := if 1 ≤ n ∧ n ≤ 8 then byTo l n.toNat l.length else []
theorem byTo_same (l : List S72) (n i : Nat) (h : ∀ w : Nat, w < n → ¬ ((rd_T72 l (i : Int)).f0 = (w : Int) ∧ (rd_T72 l (i : Int)).f2 ≥ 0)) : byTo l n (i + 1) = byTo l n i := by
  unfold byTo
  refine List.map_congr_left (fun w hw => ?_)
  rw [dids, if_neg (h w (List.mem_range.1 hw))]
theorem byTo_set (l : List S72) (n i w : Nat) (hw : w < n) (h : (rd_T72 l (i : Int)).f0 = (w : Int)) (h2 : (rd_T72 l (i : Int)).f2 ≥ 0) :
    (byTo l n i).set w (dids l (w : Int) i ++ [didOf (rd_T72 l (i : Int))]) = byTo l n (i + 1) := by
  refine List.ext_getElem (by simp [byTo_len]) (fun j h3 h4 => ?_)
  rw [byTo_len] at h4
  rw [List.getElem_set, byTo_get l n (i + 1) j h4]
  by_cases e : w = j
  · subst e; rw [if_pos rfl, dids, if_pos ⟨h, h2⟩]
  · rw [if_neg e, byTo_get l n i j h4, dids, if_neg (fun q => by have := q.1; omega)]
theorem l1In_v (x lo hi : Int) : spec_l1In.f x lo hi = some (decide (lo ≤ x ∧ x ≤ hi)) := l1In_eq x lo hi
theorem implByHart_eq (n : Int) (l : List S72) (hl : l.length ≤ 1048576) (k : Nat) (hk : 4200000 < k) : impl_ByHart.f k n l = some (byV n l) := by
  unfold impl_ByHart.f byV
  rw [from_eq, Option.bind_some]
  by_cases hn : 1 ≤ n ∧ n ≤ 8
  · rw [decide_eq_true hn, if_pos rfl, if_pos (by omega), if_pos (by omega), if_pos hn]
    have h := for_st l.length (fun k' i (s : List (List S74)) => impl_ByHart.l0 k' n s l (l.length : Int) (i : Int)) (fun i => byTo l n.toNat i) (byTo l n.toNat l.length) ?_ ?_ k 0 (Nat.zero_le _) (by omega)
    · have e : byTo l n.toNat 0 = List.replicate n.toNat [] := by
        unfold byTo
        refine List.ext_getElem (by simp) (fun j h1 h2 => by simp [dids])
      rw [← e]; exact h
    · intro k' i hi
      rw [impl_ByHart.l0, if_pos (by omega), if_pos (by omega), if_pos (by omega), wrap_small (x := n - 1) (by omega) (by omega), from_eq, Option.bind_some, wrap_succ (by omega)]
      by_cases a : (rd_T72 l (i : Int)).f2 ≥ 0
      · rw [if_pos a]
        by_cases b : 0 ≤ (rd_T72 l (i : Int)).f0 ∧ (rd_T72 l (i : Int)).f0 ≤ n - 1
        · obtain ⟨w, hw⟩ : ∃ w : Nat, (rd_T72 l (i : Int)).f0 = (w : Int) := ⟨_, (Int.toNat_of_nonneg b.1).symm⟩
          rw [decide_eq_true b, if_pos rfl]
          rw [hw] at b ⊢
          have hwn : w < n.toNat := by omega
          have hd := dids_len l (w : Int) i
          rw [if_pos b.1, if_pos (by rw [byTo_len]; omega), rdL _ w (by rw [byTo_len]; exact hwn), byTo_get l _ i w hwn, if_pos (by omega), Int.toNat_natCast]
          have := byTo_set l n.toNat i w hwn hw a
          unfold didOf at this
          rw [this]
        · rw [decide_eq_false b, if_neg (by simp), byTo_same l _ i (fun w hw q => b (by have := q.1; omega))]
      · rw [if_neg a, byTo_same l _ i (fun w hw q => a q.2)]
    · intro k'
      rw [impl_ByHart.l0, if_neg (by omega)]
  · rw [decide_eq_false hn, if_neg (by simp), if_neg hn]
theorem specBy_l1 (n : Int) (l : List S72) (hl : l.length ≤ 1048576) (w : Nat) (hw : w < 8) (out : List (List S74)) (ho : out.length ≤ 8) : ∀ (d i k : Nat), i + d = l.length →
    spec_ByHart.l1 (k + d + 1) n l out (w : Int) (dids l (w : Int) i) (i : Int) = spec_ByHart.l0 k n l (out ++ [dids l (w : Int) l.length]) ((w + 1 : Nat) : Int)
  | 0, i, k, hi => by
    have e : i = l.length := by omega
    rw [show k + 0 + 1 = k + 1 from rfl, spec_ByHart.l1, if_neg (by omega), if_pos (by omega), wrap_succ (by omega), e]
  | d + 1, i, k, hi => by
    have ih := specBy_l1 n l hl w hw out ho d (i + 1) k (by omega)
    have hd := dids_len l (w : Int) i
    rw [show k + (d + 1) + 1 = (k + d + 1) + 1 by omega, spec_ByHart.l1, if_pos (by omega), if_pos (by omega), wrap_succ (by omega)]
    rw [dids] at ih
    by_cases a : (rd_T72 l (i : Int)).f0 = (w : Int)
    · rw [if_pos a]
      by_cases b : (rd_T72 l (i : Int)).f2 ≥ 0
      · rw [if_pos b, if_pos (by omega)]
        rw [if_pos ⟨a, b⟩] at ih
        exact ih
      · rw [if_neg b]; rw [if_neg (fun q => b q.2)] at ih; exact ih
    · rw [if_neg a]; rw [if_neg (fun q => a q.1)] at ih; exact ih
theorem specBy_l0 (n : Int) (l : List S72) (hl : l.length ≤ 1048576) (hn : 1 ≤ n ∧ n ≤ 8) : ∀ (d w k : Nat), w + d = n.toNat → d * (l.length + 3) + 5 < k →
    spec_ByHart.l0 k n l (byTo l w l.length) (w : Int) = some (byTo l n.toNat l.length)
  | 0, w, k, hw, hk => by
    obtain ⟨k, rfl⟩ : ∃ m, k = m + 2 := ⟨k - 2, by omega⟩
    have e : w = n.toNat := by omega
    rw [spec_ByHart.l0, if_neg (by omega), spec_ByHart.j1, if_neg (by simp), e]
  | d + 1, w, k, hw, hk => by
    have hk' : d * (l.length + 3) + (l.length + 3) + 5 < k := by rw [Nat.add_mul] at hk; omega
    obtain ⟨k, rfl⟩ : ∃ m, k = (m + l.length + 1) + 1 + 1 := ⟨k - l.length - 3, by omega⟩
    rw [spec_ByHart.l0, if_pos (by omega), l1In_eq, decide_eq_true hn, Option.bind_some, spec_ByHart.j1, if_pos rfl]
    have h := specBy_l1 n l hl w (by omega) (byTo l w l.length) (by rw [byTo_len]; omega) l.length 0 k (by omega)
    have h' : spec_ByHart.l1 (k + l.length + 1) n l (byTo l w l.length) (w : Int) [] 0 = _ := h
    have e : byTo l w l.length ++ [dids l (w : Int) l.length] = byTo l (w + 1) l.length := by unfold byTo; rw [List.range_succ, List.map_append]; rfl
    rw [h', e]
    exact specBy_l0 n l hl hn d (w + 1) k (by omega) (by omega)
theorem specByHart_eq (n : Int) (l : List S72) (hl : l.length ≤ 1048576) (k : Nat) (hk : 10000000 < k) : spec_ByHart.f k n l = some (byV n l) := by
  unfold spec_ByHart.f byV
  by_cases hn : 1 ≤ n ∧ n ≤ 8
  · rw [if_pos hn]
    have hm : n.toNat * (l.length + 3) ≤ 8 * (l.length + 3) := Nat.mul_le_mul_right _ (by omega)
    exact specBy_l0 n l hl hn n.toNat 0 k (by omega) (by omega)
  · rw [if_neg hn]
    obtain ⟨k, rfl⟩ : ∃ m, k = m + 2 := ⟨k - 2, by omega⟩
    rw [spec_ByHart.l0]
    by_cases c : 0 < n
    · rw [if_pos c, l1In_eq, decide_eq_false hn, Option.bind_some, spec_ByHart.j1, if_neg (by simp)]
    · rw [if_neg c, spec_ByHart.j1, if_neg (by simp)]
theorem byV_ok (n : Int) (l : List S72) (hl : l.length ≤ 1048576) : (byV n l).length ≤ 8 ∧ ∀ h ∈ byV n l, h.length ≤ 2097152 := by
  unfold byV; split
  · refine ⟨by rw [byTo_len]; omega, fun h hh => ?_⟩
    have := byTo_mem l n.toNat l.length h hh; omega
  · exact ⟨by simp, by simp⟩
theorem FnExactByHart : laws_FnExactByHart.Pure := by
  rintro n l hn ⟨hl, _⟩
  obtain ⟨K, hK⟩ : ∃ K : Nat, 10000001 ≤ K := ⟨_, Nat.le_refl _⟩
  refine ⟨K, ?_⟩
  unfold laws_FnExactByHart.f
  obtain ⟨q, e, hq⟩ := szEventS_ex l hl
  rw [e, Option.bind_some]
  by_cases h : q < 0
  · rw [if_pos h]
  have hl' := hq (by omega)
  have e1 := toEventS_eq l hl' K (by omega)
  have hL : (l.map toEventV).length ≤ 1048576 := by simpa using hl'
  generalize l.map toEventV = t at e1 hL
  have e2 := specByHart_eq n t hL K (by omega)
  have e3 := implByHart_eq n t hL K (by omega)
  obtain ⟨v1, v2⟩ := byV_ok n t hL
  generalize byV n t = v at e2 e3 v1 v2
  have e4 := eqSS_same v (by omega) v2 K (by omega)
  have e5 := eqEventS_same t hL K (by omega)
  obtain ⟨x, e6⟩ := markEventS_ex t.length hL t.length 0 t 1 K rfl (by omega) (by omega) (by omega) (by omega)
  have e6' : laws_markEventS.f K t 1 = some (1 + 5 * (t.length : Int), x) := e6
  have hbd := marksSS_bd v 1 v2
  have hge := marksSS_le v 1
  have e7 := markSS_eq v 1 (by omega) (by omega) v2 (by omega) K (by omega)
  have e8 := heldSS_eq v 1 (by omega) (by omega) v2 (by omega) K (by omega)
  rw [if_neg h, e1, Option.bind_some, e2, Option.bind_some, Option.bind_some, e3, Option.bind_some, e4, Option.bind_some, if_pos rfl, Option.bind_some, e5, Option.bind_some, if_pos rfl, e6', Option.bind_some]
  try dsimp only
  rw [if_neg (by omega), Option.bind_some, if_pos rfl, e7, Option.bind_some]
  try dsimp only
  rw [e8, Option.bind_some, if_neg (by omega), if_pos rfl, Option.bind_some, e3, Option.bind_some, e4, Option.bind_some, if_pos rfl, Option.bind_some, if_neg (by omega), if_pos rfl]
end Go.Proofs.Ytbbieaglfgipnaa.Pure
