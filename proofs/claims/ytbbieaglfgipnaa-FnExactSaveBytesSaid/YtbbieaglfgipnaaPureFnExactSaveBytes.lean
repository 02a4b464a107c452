/- For all memories and harts, the program's SaveBytes returns what the reference's SaveBytes returns, keeps its arguments, and its result is its own: no conditions. -/
import Derived.Test.YtbbieaglfgipnaaPFnExactSaveBytesx6
namespace Go.Proofs.Ytbbieaglfgipnaa.Pure
open Go.RowKit Go.Proofs.Ytbbieaglfgipnaa.PFnExactSaveBytes Go.Proofs.YtbbieaglfgipnaaW.PrintWords Go.Proofs.YtbbieaglfgipnaaW.PrintLast
set_option linter.unusedVariables false
set_option linter.unusedSimpArgs false

theorem wrap_small {x : Int} (h0 : -9223372036854775808 ≤ x) (h : x ≤ 9223372036854775807) : wrap64 x = x := by
  unfold wrap64; omega
theorem wrap_succ {i : Nat} (h : i < 4611686018427387904) : wrap64 ((i : Int) + 1) = ((i + 1 : Nat) : Int) := by
  unfold wrap64; omega
theorem rd_nat (l : List Int) (i : Nat) (h : i < l.length) : rd l (i : Int) = l[i] := by
  unfold rd; simp [List.getD, h]
theorem rd_mem (l : List Int) (i : Nat) (h : i < l.length) : rd l (i : Int) ∈ l := by
  rw [rd_nat l i h]; exact List.getElem_mem h
/-- A loop whose state is known ahead of each round. -/
theorem for_st {σ ρ : Type} (n : Nat) (L : Nat → Nat → σ → Option ρ) (st : Nat → σ) (r : ρ) (hs : ∀ k i, i < n → L (k + 1) i (st i) = L k (i + 1) (st (i + 1))) (he : ∀ k, L (k + 1) n (st n) = some r) :
    ∀ (k i : Nat), i ≤ n → n < i + k → L k i (st i) = some r
  | 0, i, hi, hk => by omega
  | k + 1, i, hi, hk => by
    by_cases h : i < n
    · rw [hs k i h]; exact for_st n L st r hs he k (i + 1) (by omega) (by omega)
    · have : i = n := by omega
      subst this; exact he k
/-- A loop that ends at the first place where p holds. -/
theorem for_find {ρ : Type} (n : Nat) (L : Nat → Nat → Option ρ) (p : Nat → Prop) (b : Nat → ρ) (r : ρ) (hs : ∀ k i, i < n → ¬ p i → L (k + 1) i = L k (i + 1)) (hb : ∀ k i, i < n → p i → L (k + 1) i = some (b i)) (he : ∀ k, L (k + 1) n = some r) :
    ∀ (k i : Nat), i ≤ n → n < i + k → (∃ j, i ≤ j ∧ j < n ∧ p j ∧ (∀ m, i ≤ m → m < j → ¬ p m) ∧ L k i = some (b j)) ∨ (∀ j, i ≤ j → j < n → ¬ p j) ∧ L k i = some r
  | 0, i, hi, hk => by omega
  | k + 1, i, hi, hk => by
    by_cases h : i < n
    · by_cases hp : p i
      · exact .inl ⟨i, Nat.le_refl _, h, hp, fun m h1 h2 => by omega, hb k i h hp⟩
      · rw [hs k i h hp]
        rcases for_find n L p b r hs hb he k (i + 1) (by omega) (by omega) with ⟨j, h1, h2, h3, h4, h5⟩ | ⟨h1, h2⟩
        · refine .inl ⟨j, by omega, h2, h3, fun m hm1 hm2 => ?_, h5⟩
          by_cases e : m = i
          · subst e; exact hp
          · exact h4 m (by omega) hm2
        · refine .inr ⟨fun j hj1 hj2 => ?_, h2⟩
          by_cases e : j = i
          · subst e; exact hp
          · exact h1 j (by omega) hj2
    · have : i = n := by omega
      subst this; exact .inr ⟨fun j h1 h2 => by omega, he k⟩
/-- The same for a Bool: do all places pass? -/
theorem for_all {n : Nat} {L : Nat → Nat → Option Bool} (p : Nat → Prop) (hs : ∀ k i, i < n → p i → L (k + 1) i = L k (i + 1)) (hb : ∀ k i, i < n → ¬ p i → L (k + 1) i = some false) (c : Bool) (he : ∀ k, L (k + 1) n = some c) {q : Bool}
    (hq : q = true ↔ (∀ j, j < n → p j) ∧ c = true) (k : Nat) (hk : n < k) : L k 0 = some q := by
  rcases for_find n L (fun i => ¬ p i) (fun _ => false) c (fun k i h hp => hs k i h (Classical.not_not.1 hp)) (fun k i h hp => hb k i h hp) he k 0 (Nat.zero_le _) (by omega) with ⟨j, _, h2, h3, _, h5⟩ | ⟨h1, h2⟩
  · rw [h5]; congr 1; symm
    rw [Bool.eq_false_iff]; intro hh; exact h3 ((hq.1 hh).1 j h2)
  · rw [h2]; congr 1
    have : ∀ j, j < n → p j := fun j hj => Classical.not_not.1 (h1 j (Nat.zero_le _) hj)
    rw [Bool.eq_iff_iff, hq]; exact ⟨fun h => ⟨this, h⟩, fun h => h.2⟩
/-- What is written, place by place. -/
theorem set_step {α : Type} (a b : List α) (i : Nat) (hi : i < a.length) (hb : b.length = a.length) : (a.take i ++ b.drop i).set i (a[i]'hi) = a.take (i + 1) ++ b.drop (i + 1) := by
  rw [List.set_append_right _ _ (by simp; omega), List.length_take, Nat.min_eq_left (by omega), Nat.sub_self, List.take_succ_eq_append_getElem hi, List.append_assoc]
  congr 1
  rw [List.drop_eq_getElem_cons (by omega)]
  rfl
theorem snoc_step {α : Type} (a : List α) (i : Nat) (hi : i < a.length) : a.take i ++ [a[i]'hi] = a.take (i + 1) := by
  rw [List.take_succ_eq_append_getElem hi]
theorem eq_iff_all (a b : List Int) (h : a.length = b.length) : a = b ↔ ∀ j, j < a.length → rd a (j : Int) = rd b (j : Int) := by
  constructor
  · rintro rfl j _; rfl
  · intro hh; refine List.ext_getElem h (fun j h1 h2 => ?_)
    have := hh j h1
    rwa [rd_nat a j h1, rd_nat b j h2] at this
/-- What marks hold: s, s + 1, .. -/
def iota (s : Int) (n : Nat) : List Int := (List.range n).map fun (i : Nat) => s + (i : Int)
theorem iota_length (s : Int) (n : Nat) : (iota s n).length = n := by simp [iota]
theorem iota_get (s : Int) (n i : Nat) (h : i < n) : (iota s n)[i]'(by rw [iota_length]; exact h) = s + i := by simp [iota]
/-- The same as bytes. -/
def iota8 (s : Int) (n : Nat) : List Int := (List.range n).map fun (i : Nat) => (s + (i : Int)) % 256
theorem iota8_length (s : Int) (n : Nat) : (iota8 s n).length = n := by simp [iota8]
theorem iota8_get (s : Int) (n i : Nat) (h : i < n) : (iota8 s n)[i]'(by rw [iota8_length]; exact h) = (s + i) % 256 := by simp [iota8]
theorem wraps_i64 (n : Int) (h0 : 0 ≤ n) (h1 : n < 2 ^ 62) : IntKind.i64.wrap n = n := by rw [IntKind.wrap_i64]; omega
theorem and255 (x : Int) (h0 : 0 ≤ x) (h : x ≤ 65535) : Go.bits .and .i64 x 255 = x % 256 := bits_mask .i64 62 (by decide) wraps_i64 8 (by decide) x h0 (by omega)
/-- Does a search find something. -/
theorem idx_any {n : Nat} (L : Nat → Nat → Option Int) (q : Nat → Bool) (hs : ∀ k i, i < n → q i = false → L (k + 1) i = L k (i + 1)) (hb : ∀ k i, i < n → q i = true → L (k + 1) i = some (i : Int)) (he : ∀ k, L (k + 1) n = some (-1)) (r : Bool)
    (hr : r = true ↔ ∃ j, j < n ∧ q j = true) (k : Nat) (hk : n < k) : ∃ v, L k 0 = some v ∧ decide (v ≥ 0) = r := by
  rcases for_find n L (fun i => q i = true) (fun i => (i : Int)) (-1) (fun k i h hp => hs k i h (by simpa using hp)) hb he k 0 (Nat.zero_le _) (by omega) with ⟨j, _, h2, h3, _, h5⟩ | ⟨h1, h2⟩
  · refine ⟨_, h5, ?_⟩
    rw [decide_eq_true (by omega : (j : Int) ≥ 0)]; exact (hr.2 ⟨j, h2, h3⟩).symm
  · refine ⟨_, h2, ?_⟩
    rw [decide_eq_false (by omega : ¬ (-1 : Int) ≥ 0)]; symm; rw [Bool.eq_false_iff]; intro hh
    obtain ⟨j, hj, hq⟩ := hr.1 hh
    exact h1 j (Nat.zero_le _) hj hq
/-- A count that goes down, item by item, and stops below nothing. -/
theorem sz_loop {n C : Nat} {M : Int} (L : Nat → Nat → Int → Option Int) (P : Nat → Prop) (hs : ∀ k i a, i < n → C ≤ k → 0 ≤ a → a ≤ M → (∃ r, r < 0 ∧ L (k + 1) i a = some r) ∨ ∃ t, 0 ≤ t ∧ t ≤ a ∧ P i ∧ L (k + 1) i a = L k (i + 1) t)
    (he : ∀ k a, L (k + 1) n a = some a) : ∀ (m i : Nat) (a : Int), i ≤ n → n < i + m → 0 ≤ a → a ≤ M → ∃ r, L (m + C) i a = some r ∧ r ≤ a ∧ (0 ≤ r → ∀ j, i ≤ j → j < n → P j)
  | 0, i, a, hi, hm, _, _ => by omega
  | m + 1, i, a, hi, hm, h0, h1 => by
    rw [show m + 1 + C = (m + C) + 1 by omega]
    by_cases h : i < n
    · rcases hs (m + C) i a h (by omega) h0 h1 with ⟨r, hr, e⟩ | ⟨t, ht0, ht, hp, e⟩
      · exact ⟨r, e, by omega, fun h => by omega⟩
      · obtain ⟨r, e2, hr, hq⟩ := sz_loop L P hs he m (i + 1) t (by omega) (by omega) ht0 (by omega)
        refine ⟨r, by rw [e, e2], by omega, fun h0 j hj1 hj2 => ?_⟩
        by_cases c : j = i
        · subst c; exact hp
        · exact hq h0 j (by omega) hj2
    · have : i = n := by omega
      subst this
      exact ⟨a, he _ _, Int.le_refl _, fun _ j h1 h2 => by omega⟩
/-- A list made place by place. -/
theorem to_loop {α : Type} {C : Nat} (v z : List α) (hz : z.length = v.length) (L : Nat → Nat → List α → Option (List α)) (hs : ∀ k i s (hi : i < v.length), C ≤ k → s.length = v.length → L (k + 1) i s = L k (i + 1) (s.set i (v[i]'hi)))
    (he : ∀ k s, L (k + 1) v.length s = some s) (k : Nat) (hk : v.length + C < k) : L k 0 z = some v := by
  have h := for_st v.length (fun k' i (s : List α) => L (k' + C) i s) (fun i => v.take i ++ z.drop i) v ?_ ?_ (k - C) 0 (Nat.zero_le _) (by omega)
  · rw [show k - C + C = k by omega] at h; simpa using h
  · intro k' i hi
    rw [show k' + 1 + C = (k' + C) + 1 by omega, hs _ _ _ hi (by omega) (by simp; omega), set_step _ _ _ hi hz]
  · intro k'
    rw [show k' + 1 + C = (k' + C) + 1 by omega, he, List.take_of_length_le (Nat.le_refl _), List.drop_of_length_le (by omega), List.append_nil]
/-- Equal, place by place. -/
theorem same_loop {n C : Nat} (L : Nat → Nat → Option Bool) (hs : ∀ k i, i < n → C ≤ k → L (k + 1) i = L k (i + 1)) (he : ∀ k, L (k + 1) n = some true) (k : Nat) (hk : n + C < k) : L k 0 = some true := by
  have h := for_st n (fun k' i (_ : Unit) => L (k' + C) i) (fun _ => ()) true ?_ ?_ (k - C) 0 (Nat.zero_le _) (by omega)
  · rw [show k - C + C = k by omega] at h; exact h
  · intro k' i hi; rw [show k' + 1 + C = (k' + C) + 1 by omega, hs _ _ hi (by omega)]
  · intro k'; rw [show k' + 1 + C = (k' + C) + 1 by omega, he]
def wordsB (l : List Int) (n : Int) : Bool := decide ((l.length : Int) = n) && l.all (fun x => decide (0 ≤ x ∧ x ≤ 65535))
theorem wordsB_mem {l : List Int} {n : Int} (h : wordsB l n = true) (x : Int) (hx : x ∈ l) : 0 ≤ x ∧ x ≤ 65535 := by
  unfold wordsB at h; rw [Bool.and_eq_true, List.all_eq_true] at h; exact of_decide_eq_true (h.2 x hx)
/-- Is it a hart: four words, a cell, a state. -/
def hartB (regs : List Int) (pc st : Int) : Bool := wordsB regs 4 && (decide (0 ≤ pc ∧ pc ≤ 23) && decide (0 ≤ st ∧ st ≤ 2))
theorem ite_some' (b c : Bool) : (if b = true then some c else some false) = some (b && c) := by cases b <;> rfl
theorem hartB_len {r : List Int} {p s : Int} (h : hartB r p s = true) : r.length = 4 := by
  unfold hartB wordsB at h; rw [Bool.and_eq_true, Bool.and_eq_true] at h; have := of_decide_eq_true h.1.1; omega
theorem wordsB_24 {l : List Int} (h : wordsB l 24 = true) : l.length = 24 := by unfold wordsB at h; rw [Bool.and_eq_true] at h; have := of_decide_eq_true h.1; omega
theorem tmod_pos (n c : Int) (h : 0 ≤ n) : Int.tmod n c = n % c := Int.tmod_eq_emod_of_nonneg h
theorem tmod_neg (n c : Int) (h : n < 0) : Int.tmod n c = -((-n) % c) := by
  rw [← Int.tmod_eq_emod_of_nonneg (by omega : 0 ≤ -n), Int.neg_tmod, Int.neg_neg]
theorem tdiv_pos (n c : Int) (h : 0 ≤ n) : Int.tdiv n c = n / c := Int.tdiv_eq_ediv_of_nonneg h
/-- A remainder brought up from below nothing. -/
theorem tmod_up (n c : Int) (hc : 0 < c) (hb : c ≤ 4294967296) : Int.tmod (Int.tmod n c + c) c = n % c := by
  have h1 := Int.emod_nonneg n (by omega : c ≠ 0)
  have h2 := Int.emod_lt_of_pos n hc
  rcases Int.lt_or_le n 0 with h | h
  · rw [tmod_neg n c h]
    have h3 := Int.emod_nonneg (-n) (by omega : c ≠ 0)
    have h4 := Int.emod_lt_of_pos (-n) hc
    rw [tmod_pos _ _ (by omega), Int.add_emod_right, ← Int.sub_emod_right]
    have := Int.emod_add_mul_ediv (-n) c
    have e : -(-n % c) - c = n + c * ((-n) / c - 1) := by
      have : n = -(-n % c) - c * ((-n) / c) := by omega
      rw [Int.mul_sub]; omega
    rw [e, Int.add_mul_emod_self_left]
  · rw [tmod_pos n c h, tmod_pos _ _ (by omega), Int.add_emod_right, Int.emod_emod_of_dvd _ (Int.dvd_refl c)]
theorem tmod_bd (n c : Int) (hc : 0 < c) : -c < Int.tmod n c ∧ Int.tmod n c < c := by
  rcases Int.lt_or_le n 0 with h | h
  · rw [tmod_neg n c h]
    have h3 := Int.emod_nonneg (-n) (by omega : c ≠ 0)
    have h4 := Int.emod_lt_of_pos (-n) hc
    omega
  · rw [tmod_pos n c h]
    have h3 := Int.emod_nonneg n (by omega : c ≠ 0)
    have h4 := Int.emod_lt_of_pos n hc
    omega
/-- for_st, where some rounds stay over. -/
theorem for_stC {σ ρ : Type} (C n : Nat) (L : Nat → Nat → σ → Option ρ) (st : Nat → σ) (r : ρ) (hs : ∀ k i, C ≤ k → i < n → L (k + 1) i (st i) = L k (i + 1) (st (i + 1))) (he : ∀ k, C ≤ k → L (k + 1) n (st n) = some r) :
    ∀ (k i : Nat), i ≤ n → n + C < i + k → L k i (st i) = some r
  | 0, i, hi, hk => by omega
  | k + 1, i, hi, hk => by
    by_cases h : i < n
    · rw [hs k i (by omega) h]; exact for_stC C n L st r hs he k (i + 1) (by omega) (by omega)
    · have : i = n := by omega
      subst this; exact he k (by omega)
theorem toIntS_eq (l : List Int) (hl : l.length ≤ 1048576) (k : Nat) (hk : l.length < k) : laws_toIntS.f k l = some l := by
  unfold laws_toIntS.f
  rw [if_pos (by omega), if_pos (by simp; omega)]
  have h := for_st l.length (fun k i s => laws_toIntS.l0 k l s (i : Int)) (fun i => l.take i ++ (List.replicate l.length 0).drop i) l ?_ ?_ k 0 (Nat.zero_le _) (by omega)
  · simpa using h
  · intro k i hi
    simp only [laws_toIntS.l0]
    rw [if_pos (by omega), if_pos (by omega), if_pos (by simp; omega), wrap_succ (by omega), rd_nat l i hi]
    simp only [Int.toNat_natCast]
    rw [set_step _ _ _ hi (by simp)]
  · intro k
    simp only [laws_toIntS.l0]
    rw [if_neg (by omega)]; simp
theorem eqIntS_eq (a b : List Int) (hl : a.length ≤ 1048576) (k : Nat) (hk : a.length < k) : laws_eqIntS.f k a b = some (decide (a = b)) := by
  unfold laws_eqIntS.f
  by_cases h : a.length = b.length
  · rw [if_pos (by omega)]
    refine for_all (L := fun k i => laws_eqIntS.l0 k a b (i : Int)) (n := a.length) (fun j => rd a (j : Int) = rd b (j : Int)) ?_ ?_ true ?_ ?_ k hk
    · intro k i hi hp
      simp only [laws_eqIntS.l0]
      rw [if_pos (by omega), if_pos (by omega), if_pos (by omega), if_pos hp, wrap_succ (by omega)]
    · intro k i hi hp
      simp only [laws_eqIntS.l0]
      rw [if_pos (by omega), if_pos (by omega), if_pos (by omega), if_neg hp]
    · intro k
      simp only [laws_eqIntS.l0]
      rw [if_neg (by omega)]
    · rw [decide_eq_true_iff, eq_iff_all a b h]; simp
  · rw [if_neg (by omega)]
    have : a ≠ b := fun hh => h (by rw [hh])
    simp [this]
theorem eqByteS_eq (a b : List Int) (hl : a.length ≤ 2097152) (k : Nat) (hk : a.length < k) : laws_eqByteS.f k a b = some (decide (a = b)) := by
  unfold laws_eqByteS.f
  by_cases h : a.length = b.length
  · rw [if_pos (by omega)]
    refine for_all (L := fun k i => laws_eqByteS.l0 k a b (i : Int)) (n := a.length) (fun j => rd a (j : Int) = rd b (j : Int)) ?_ ?_ true ?_ ?_ k hk
    · intro k i hi hp
      simp only [laws_eqByteS.l0]
      rw [if_pos (by omega), if_pos (by omega), if_pos (by omega), if_pos hp, wrap_succ (by omega)]
    · intro k i hi hp
      simp only [laws_eqByteS.l0]
      rw [if_pos (by omega), if_pos (by omega), if_pos (by omega), if_neg hp]
    · intro k
      simp only [laws_eqByteS.l0]
      rw [if_neg (by omega)]
    · rw [decide_eq_true_iff, eq_iff_all a b h]; simp
  · rw [if_neg (by omega)]
    have : a ≠ b := fun hh => h (by rw [hh])
    simp [this]
theorem markIntS_eq (l : List Int) (s : Int) (h0 : 0 ≤ s) (h1 : s ≤ 1152921504606846976) (hl : l.length ≤ 2097152) (k : Nat) (hk : l.length < k) : laws_markIntS.f k l s = some (s + l.length, iota s l.length) := by
  unfold laws_markIntS.f
  have h := for_st l.length (fun k i (t : List Int × Int) => laws_markIntS.l0 k t.1 t.2 (i : Int)) (fun i => ((iota s l.length).take i ++ l.drop i, s + (i : Int))) (s + l.length, iota s l.length) ?_ ?_ k 0 (Nat.zero_le _) (by omega)
  · simpa using h
  · intro k i hi
    simp only [laws_markIntS.l0]
    rw [if_pos (by simp [iota_length]; omega), if_pos (by omega), wrap_succ (by omega), wrap_small (by omega) (by omega)]
    simp only [Int.toNat_natCast]
    rw [← iota_get s l.length i hi, set_step _ _ _ (by rw [iota_length]; exact hi) (by rw [iota_length])]
    congr 1
    rw [iota_get s l.length i hi]; omega
  · intro k
    simp only [laws_markIntS.l0]
    rw [if_neg (by simp [iota_length])]
    simp [List.take_of_length_le, iota_length]
theorem markByteS_eq (l : List Int) (s : Int) (h0 : 0 ≤ s) (h1 : s ≤ 4294967296) (hl : l.length ≤ 2097152) (k : Nat) (hk : l.length < k) : laws_markByteS.f k l s = some (s + l.length, iota8 s l.length) := by
  unfold laws_markByteS.f
  have h := for_st l.length (fun k i (t : List Int × Int) => laws_markByteS.l0 k t.1 t.2 (i : Int)) (fun i => ((iota8 s l.length).take i ++ l.drop i, s + (i : Int))) (s + l.length, iota8 s l.length) ?_ ?_ k 0 (Nat.zero_le _) (by omega)
  · simpa using h
  · intro k i hi
    simp only [laws_markByteS.l0]
    rw [if_pos (by simp [iota8_length]; omega), if_pos (by omega), wrap_succ (by omega), wrap_small (by omega) (by omega)]
    simp only [Int.toNat_natCast]
    rw [← iota8_get s l.length i hi, set_step _ _ _ (by rw [iota8_length]; exact hi) (by rw [iota8_length])]
    congr 1
    omega
  · intro k
    simp only [laws_markByteS.l0]
    rw [if_neg (by simp [iota8_length])]
    simp [List.take_of_length_le, iota8_length]
theorem heldByteS_eq (s : Int) (n : Nat) (h0 : 0 ≤ s) (h1 : s ≤ 4294967296) (hl : n ≤ 2097152) (k : Nat) (hk : n < k) : laws_heldByteS.f k (iota8 s n) s = some (s + n) := by
  unfold laws_heldByteS.f
  have h := for_st n (fun k i (t : Int) => laws_heldByteS.l0 k (iota8 s n) t (i : Int)) (fun i => s + (i : Int)) (s + n) ?_ ?_ k 0 (Nat.zero_le _) (by omega)
  · simpa using h
  · intro k i hi
    simp only [laws_heldByteS.l0]
    rw [if_pos (by simp [iota8_length]; omega), if_pos (by omega), rd_nat _ _ (by rw [iota8_length]; exact hi), if_pos (iota8_get s n i hi), wrap_succ (by omega), wrap_small (by omega) (by omega)]
    congr 1; omega
  · intro k
    simp only [laws_heldByteS.l0]
    rw [if_neg (by simp [iota8_length])]
theorem l1In_eq (x lo hi : Int) : spec_l1In.f x lo hi = some (decide (lo ≤ x ∧ x ≤ hi)) := by
  unfold spec_l1In.f
  by_cases h : x ≥ lo
  · rw [if_pos h]; have h' : lo ≤ x := h; simp [h']
  · rw [if_neg h]; have h' : ¬ lo ≤ x := h; simp [h']
theorem from_eq (x lo hi : Int) : impl_from.f x lo hi = some (decide (lo ≤ x ∧ x ≤ hi)) := by
  unfold impl_from.f
  by_cases h : x ≥ lo
  · rw [if_pos h]; have h' : lo ≤ x := h; simp [h']
  · rw [if_neg h]; have h' : ¬ lo ≤ x := h; simp [h']
theorem isWord_eq (x : Int) : impl_isWord.f x = some (decide (0 ≤ x ∧ x ≤ 65535)) := by
  unfold impl_isWord.f; rw [from_eq]; rfl
theorem isCell_eq (x : Int) : impl_isCell.f x = some (decide (0 ≤ x ∧ x ≤ 23)) := by
  unfold impl_isCell.f; rw [from_eq]; rfl
theorem l1Words_eq (l : List Int) (n : Int) (hl : l.length ≤ 2097152) (k : Nat) (hk : l.length < k) : spec_l1Words.f k l n = some (wordsB l n) := by
  unfold spec_l1Words.f
  refine for_all (L := fun k i => spec_l1Words.l0 k l n (i : Int)) (n := l.length) (fun j => 0 ≤ rd l (j : Int) ∧ rd l (j : Int) ≤ 65535) ?_ ?_ (decide ((l.length : Int) = n)) ?_ ?_ k hk
  · intro k i hi hp
    simp only [spec_l1Words.l0]
    rw [if_pos (by omega), if_pos (by omega), l1In_eq, decide_eq_true hp, Option.bind_some, if_pos rfl, wrap_succ (by omega)]
  · intro k i hi hp
    simp only [spec_l1Words.l0]
    rw [if_pos (by omega), if_pos (by omega), l1In_eq, decide_eq_false hp, Option.bind_some, if_neg (by simp)]
  · intro k
    simp only [spec_l1Words.l0]
    rw [if_neg (by omega)]; rfl
  · unfold wordsB
    rw [Bool.and_eq_true, List.all_eq_true]
    constructor
    · rintro ⟨h1, h2⟩; exact ⟨fun j hj => of_decide_eq_true (h2 _ (rd_mem l j hj)), h1⟩
    · rintro ⟨h1, h2⟩; refine ⟨h2, fun x hx => ?_⟩
      obtain ⟨j, hj, rfl⟩ := List.getElem_of_mem hx
      have := h1 j hj; rw [rd_nat l j hj] at this; exact decide_eq_true this
theorem wordsOk_eq (l : List Int) (n : Int) (hl : l.length ≤ 2097152) (k : Nat) (hk : l.length < k) : impl_wordsOk.f k l n = some (wordsB l n) := by
  unfold impl_wordsOk.f
  by_cases h : (l.length : Int) = n
  · rw [if_pos h]
    unfold slices_ContainsFunc_at_impl_wordsOk_1.f slices_IndexFunc_at_impl_wordsOk_1.f
    have hf : ∀ x, impl_wordsOk_1.f x = some (!decide (0 ≤ x ∧ x ≤ 65535)) := fun x => by unfold impl_wordsOk_1.f; rw [isWord_eq]; rfl
    have hs : ∀ k i, i < l.length → ¬ ¬ (0 ≤ rd l (i : Int) ∧ rd l (i : Int) ≤ 65535) → slices_IndexFunc_at_impl_wordsOk_1.l0 (k + 1) l (l.length : Int) (i : Int) = slices_IndexFunc_at_impl_wordsOk_1.l0 k l (l.length : Int) ((i + 1 : Nat) : Int) := by
      intro k i hi hp
      simp only [slices_IndexFunc_at_impl_wordsOk_1.l0]
      rw [if_pos (by omega), if_pos (by omega), if_pos (by omega), hf, decide_eq_true (Classical.not_not.1 hp), Option.bind_some, if_neg (by simp), wrap_succ (by omega)]
    have hb : ∀ k i, i < l.length → ¬ (0 ≤ rd l (i : Int) ∧ rd l (i : Int) ≤ 65535) → slices_IndexFunc_at_impl_wordsOk_1.l0 (k + 1) l (l.length : Int) (i : Int) = some (i : Int) := by
      intro k i hi hp
      simp only [slices_IndexFunc_at_impl_wordsOk_1.l0]
      rw [if_pos (by omega), if_pos (by omega), if_pos (by omega), hf, decide_eq_false hp, Option.bind_some, if_pos (by simp)]
    have he : ∀ k, slices_IndexFunc_at_impl_wordsOk_1.l0 (k + 1) l (l.length : Int) (l.length : Int) = some (-1) := by
      intro k
      simp only [slices_IndexFunc_at_impl_wordsOk_1.l0]
      rw [if_neg (by omega)]
    rcases for_find l.length (fun k i => slices_IndexFunc_at_impl_wordsOk_1.l0 k l (l.length : Int) (i : Int)) (fun j => ¬ (0 ≤ rd l (j : Int) ∧ rd l (j : Int) ≤ 65535)) (fun j => (j : Int)) (-1) hs hb he k 0 (Nat.zero_le _) (by omega) with ⟨j, _, h2, h3, _, h5⟩ | ⟨h1, h2⟩
    · have h5' : slices_IndexFunc_at_impl_wordsOk_1.l0 k l (l.length : Int) 0 = some (j : Int) := h5
      rw [h5']
      simp only [Option.bind_some]; congr 1; symm
      rw [decide_eq_true (by omega : (j : Int) ≥ 0), Bool.not_true, wordsB, Bool.and_eq_false_iff]; right
      rw [Bool.eq_false_iff]; intro hh
      exact h3 (of_decide_eq_true (List.all_eq_true.1 hh _ (rd_mem l j h2)))
    · have h2' : slices_IndexFunc_at_impl_wordsOk_1.l0 k l (l.length : Int) 0 = some (-1) := h2
      rw [h2']
      simp only [Option.bind_some]; congr 1; symm
      rw [decide_eq_false (by omega : ¬ (-1 : Int) ≥ 0), Bool.not_false, wordsB, decide_eq_true h, Bool.true_and, List.all_eq_true]
      intro x hx
      obtain ⟨j, hj, rfl⟩ := List.getElem_of_mem hx
      have := Classical.not_not.1 (h1 j (Nat.zero_le _) hj); rw [rd_nat l j hj] at this; exact decide_eq_true this
  · rw [if_neg h, wordsB, decide_eq_false h, Bool.false_and]
theorem memOk_eq (l : List Int) (hl : l.length ≤ 2097152) (k : Nat) (hk : l.length < k) : impl_memOk.f k l = some (wordsB l 24) := by
  unfold impl_memOk.f; rw [wordsOk_eq l 24 hl k hk]; rfl
/-- Each word as two bytes. -/
def twoB (l : List Int) : List Int := l.flatMap fun x => [x / 256 % 256, x % 256]
theorem twoB_length (l : List Int) : (twoB l).length = 2 * l.length := by
  induction l with
  | nil => rfl
  | cons x l ih => simp [twoB] at ih ⊢; omega
theorem twoB_snoc (l : List Int) (x : Int) : twoB (l ++ [x]) = twoB l ++ [x / 256 % 256, x % 256] := by simp [twoB]
theorem twoBytes_eq (l : List Int) (hl : l.length ≤ 2097152) (k : Nat) (hk : l.length < k) : impl_twoBytes.f k l = some (twoB l) := by
  unfold impl_twoBytes.f
  have h := for_st l.length (fun k i (s : List Int) => impl_twoBytes.l0 k s l (l.length : Int) (i : Int)) (fun i => twoB (l.take i)) (twoB l) ?_ ?_ k 0 (Nat.zero_le _) (by omega)
  · simpa [twoB] using h
  · intro k i hi
    simp only [impl_twoBytes.l0]
    rw [if_pos (by omega), if_pos (by omega), if_pos (by omega), Option.bind_some, if_pos (by rw [twoB_length, List.length_take]; simp; omega), wrap_succ (by omega), rd_nat l i hi, ← twoB_snoc, snoc_step l i hi]
  · intro k
    simp only [impl_twoBytes.l0]
    rw [if_neg (by omega)]; simp
def memB (l : List Int) : List Int := if wordsB l 24 = true then twoB l else []
theorem specMemBytes_eq (l : List Int) (hl : l.length ≤ 2097152) (k : Nat) (hk : 2 * l.length + 1 < k) : spec_MemBytes.f k l = some (memB l) := by
  unfold spec_MemBytes.f
  by_cases hw : wordsB l 24 = true
  · have h := for_st l.length (fun k' i (s : List Int) => spec_MemBytes.l0 (k' + (l.length + 1)) l s (i : Int)) (fun i => twoB (l.take i)) (twoB l) ?_ ?_ (k - (l.length + 1)) 0 (Nat.zero_le _) (by omega)
    · have e : k - (l.length + 1) + (l.length + 1) = k := by omega
      rw [e] at h
      simpa [twoB, memB, hw] using h
    · intro k' i hi
      have e : k' + 1 + (l.length + 1) = (k' + (l.length + 1)) + 1 := by omega
      have hx := wordsB_mem hw _ (rd_mem l i hi)
      have hb : 0 ≤ rd l (i : Int) / 256 % 256 := by omega
      rw [e]
      simp only [spec_MemBytes.l0]
      rw [if_pos (by omega), l1Words_eq l 24 hl _ (by omega), hw, Option.bind_some, if_pos rfl, if_pos (by omega), Option.bind_some, if_pos (by rw [twoB_length, List.length_take]; simp; omega), wrap_succ (by omega), and255 _ hx.1 hx.2, rd_nat l i hi, show l[i] % 256 % 256 = l[i] % 256 by omega, ← twoB_snoc, snoc_step l i hi]
    · intro k'
      have e : k' + 1 + (l.length + 1) = (k' + (l.length + 1)) + 1 := by omega
      rw [e]
      simp only [spec_MemBytes.l0]
      rw [if_neg (by omega)]; simp
  · obtain ⟨k, rfl⟩ : ∃ m, k = m + 1 := ⟨k - 1, by omega⟩
    have hw' : wordsB l 24 = false := by simpa using hw
    simp only [spec_MemBytes.l0]
    by_cases h : (0 : Int) < (l.length : Int)
    · rw [if_pos h, l1Words_eq l 24 hl k (by omega), hw', Option.bind_some, if_neg (by simp), memB, if_neg hw]
    · rw [if_neg h, memB, if_neg hw]
theorem implMemBytes_eq (l : List Int) (hl : l.length ≤ 2097152) (k : Nat) (hk : l.length < k) : impl_MemBytes.f k l = some (memB l) := by
  unfold impl_MemBytes.f memB
  rw [memOk_eq l hl k hk, Option.bind_some]
  by_cases hw : wordsB l 24 = true
  · rw [if_pos hw, if_pos hw, twoBytes_eq l hl k hk]; rfl
  · rw [if_neg hw, if_neg hw]
theorem memB_length (l : List Int) : (memB l).length ≤ 48 := by
  unfold memB
  by_cases hw : wordsB l 24 = true
  · rw [if_pos hw, twoB_length]
    unfold wordsB at hw; rw [Bool.and_eq_true] at hw; have := of_decide_eq_true hw.1; omega
  · rw [if_neg hw]; simp
theorem implHartOk_eq (regs : List Int) (pc st : Int) (hl : regs.length ≤ 2097152) (k : Nat) (hk : regs.length < k) : impl_HartOk.f k regs pc st = some (hartB regs pc st) := by
  unfold impl_HartOk.f hartB
  simp only [wordsOk_eq regs 4 hl k hk, isCell_eq, from_eq, Option.bind_some, ite_some']
theorem specHartOk_eq (regs : List Int) (pc st : Int) (hl : regs.length ≤ 2097152) (k : Nat) (hk : regs.length < k) : spec_HartOk.f k regs pc st = some (hartB regs pc st) := by
  unfold spec_HartOk.f hartB
  simp only [l1Words_eq regs 4 hl k hk, l1In_eq, Option.bind_some, ite_some']
theorem eqHart_same (r : List Int) (p s : Int) (hl : r.length ≤ 1048576) (k : Nat) (hk : r.length < k) : laws_eqHart.f k r p s r p s = some true := by
  unfold laws_eqHart.f
  rw [eqIntS_eq r r hl k hk, decide_eq_true rfl, Option.bind_some, if_pos rfl, if_pos rfl, if_pos rfl]
/-- The bytes of a hart. -/
def hartBytesV (r : List Int) (p s : Int) : List Int := if hartB r p s = true then twoB r ++ [p % 256, s % 256] else []
theorem hartBytesV_length (r : List Int) (p s : Int) : (hartBytesV r p s).length ≤ 10 := by
  unfold hartBytesV
  by_cases h : hartB r p s = true
  · rw [if_pos h, List.length_append, twoB_length, hartB_len h]; exact Nat.le_refl 10
  · rw [if_neg h]; simp
theorem implHartBytes_eq (r : List Int) (p s : Int) (hl : r.length ≤ 1048576) (k : Nat) (hk : 1048600 < k) : impl_HartBytes.f k r p s = some (hartBytesV r p s) := by
  unfold impl_HartBytes.f hartBytesV
  rw [implHartOk_eq r p s (by omega) k (by omega), Option.bind_some]
  by_cases h : hartB r p s = true
  · rw [if_pos h, if_pos h, twoBytes_eq r (by omega) k (by omega), Option.bind_some, Option.bind_some, if_pos (by rw [twoB_length, hartB_len h]; show 2 * 4 + 2 < _; omega)]
  · rw [if_neg h, if_neg h]
theorem specHartBytes_eq (r : List Int) (p s : Int) (hl : r.length ≤ 1048576) (k : Nat) (hk : 1048600 < k) : spec_HartBytes.f k r p s = some (hartBytesV r p s) := by
  unfold spec_HartBytes.f hartBytesV
  rw [Option.bind_some, specHartOk_eq r p s (by omega) k (by omega), Option.bind_some]
  by_cases h : hartB r p s = true
  · rw [if_pos h, if_pos h]
    have ln := hartB_len h
    have hw : wordsB r 4 = true := by unfold hartB at h; rw [Bool.and_eq_true] at h; exact h.1
    have hh := for_st 4 (fun k' i (t : List Int) => spec_HartBytes.l0 k' t (i : Int) r p s) (fun i => twoB (r.take i)) (twoB r ++ [p % 256, s % 256]) ?_ ?_ k 0 (Nat.zero_le _) (by omega)
    · simpa [twoB] using hh
    · intro k' i hi
      have hx := wordsB_mem hw _ (rd_mem r i (by omega))
      simp only [spec_HartBytes.l0]
      rw [if_pos (by omega), if_pos (by omega), if_pos (by omega), Option.bind_some, if_pos (by rw [twoB_length, List.length_take]; simp; omega), wrap_succ (by omega), and255 _ hx.1 hx.2, rd_nat r i (by omega), show r[i] % 256 % 256 = r[i] % 256 by omega, ← twoB_snoc, snoc_step r i (by omega)]
    · intro k'
      simp only [spec_HartBytes.l0]
      rw [if_neg (by omega), Option.bind_some, List.take_of_length_le (by omega), if_pos (by rw [twoB_length, ln]; show 2 * 4 + 2 < _; omega)]
  · rw [if_neg h, if_neg h]
theorem szIntS_eq (l : List Int) (a : Int) (h0 : 0 ≤ a) (h1 : a ≤ 1048576) (hl : l.length ≤ maxLen) : laws_szIntS.f l a = some (if a - (l.length : Int) < 0 then -1 else a - (l.length : Int)) := by
  unfold maxLen at hl
  unfold laws_szIntS.f
  rw [wrap_small (by omega) (by omega)]
  by_cases h : a - (l.length : Int) < 0
  · rw [if_pos h, if_pos h]
  · rw [if_neg h, if_neg h]
theorem szIntS_ex (l : List Int) (a : Int) (h0 : 0 ≤ a) (h1 : a ≤ 1048576) (hl : l.length ≤ maxLen) : ∃ r, laws_szIntS.f l a = some r ∧ -1 ≤ r ∧ (0 ≤ r → r ≤ a ∧ l.length ≤ 1048576) := by
  refine ⟨_, szIntS_eq l a h0 h1 hl, ?_, ?_⟩
  · by_cases h : a - (l.length : Int) < 0
    · rw [if_pos h]; omega
    · rw [if_neg h]; omega
  · by_cases h : a - (l.length : Int) < 0
    · rw [if_pos h]; omega
    · rw [if_neg h]; omega
theorem szHart_ex (regs : List Int) (p s : Int) (a : Int) (h0 : 0 ≤ a) (h1 : a ≤ 1048576) (hl : regs.length ≤ maxLen) : ∃ r, laws_szHart.f regs p s a = some r ∧ -1 ≤ r ∧ (0 ≤ r → r ≤ a ∧ regs.length ≤ 1048576) := by
  unfold laws_szHart.f
  obtain ⟨r, h, h2, h3⟩ := szIntS_ex regs a h0 h1 hl
  rw [h, Option.bind_some]
  by_cases hr : r < 0
  · exact ⟨-1, by rw [if_pos hr], by omega, by omega⟩
  · exact ⟨r, by rw [if_neg hr], h2, h3⟩
theorem rdLHart (l : List S87) (i : Nat) (h : i < l.length) : rd_T87 l (i : Int) = l[i] := by
  unfold rd_T87; simp [List.getD, h]
theorem szHartS_l (l : List S87) (hl : l.length ≤ 1048576) (hx : ∀ x ∈ l, x.f0.length ≤ maxLen) : ∀ (k i : Nat) (a : Int), 0 ≤ a → a ≤ 1048576 → i ≤ l.length → l.length < i + k →
    ∃ r, laws_szHartS.l0 k l a (i : Int) = some r ∧ (0 ≤ r → ∀ j (hj : j < l.length), i ≤ j → (l[j]).f0.length ≤ 1048576)
  | 0, i, _, _, _, _, _ => by omega
  | k + 1, i, a, h0, h1, hi, hk => by
    rw [laws_szHartS.l0]
    by_cases h : i < l.length
    · rw [if_pos (by omega), if_pos (by omega), rdLHart l i h]
      obtain ⟨r, e, h2, h3⟩ := szHart_ex (l[i]).f0 (l[i]).f1 (l[i]).f2 a h0 h1 (hx _ (List.getElem_mem h))
      rw [e, Option.bind_some]
      by_cases hr : r < 0
      · exact ⟨-1, by rw [if_pos hr], by omega⟩
      · have h3' := h3 (by omega)
        rw [if_neg hr, wrap_succ (by omega)]
        obtain ⟨r', e', h4⟩ := szHartS_l l hl hx k (i + 1) r (by omega) (by omega) (by omega) (by omega)
        refine ⟨r', e', fun h5 j hj hij => ?_⟩
        by_cases c : j = i
        · subst c; exact h3'.2
        · exact h4 h5 j hj (by omega)
    · rw [if_neg (by omega)]
      exact ⟨a, rfl, fun _ j hj hij => by omega⟩
theorem szHartS_ex (l : List S87) (a : Int) (h0 : 0 ≤ a) (h1 : a ≤ 1048576) (hm : l.length ≤ maxLen) (hx : ∀ x ∈ l, x.f0.length ≤ maxLen) (k : Nat) (hk : 1048577 < k) :
    ∃ r, laws_szHartS.f k l a = some r ∧ (0 ≤ r → l.length ≤ 1048576 ∧ ∀ x ∈ l, x.f0.length ≤ 1048576) := by
  unfold maxLen at hm
  unfold laws_szHartS.f
  rw [wrap_small (by omega) (by omega)]
  by_cases h : a - (l.length : Int) < 0
  · exact ⟨-1, by rw [if_pos h], by omega⟩
  · rw [if_neg h]
    obtain ⟨r, e, h2⟩ := szHartS_l l (by omega) hx k 0 (a - (l.length : Int)) (by omega) (by omega) (by omega) (by omega)
    refine ⟨r, e, fun h3 => ⟨by omega, fun x hxm => ?_⟩⟩
    obtain ⟨j, hj, rfl⟩ := List.getElem_of_mem hxm
    exact h2 h3 j hj (by omega)
theorem toHart_eq (r : List Int) (p s : Int) (hl : r.length ≤ 1048576) (k : Nat) (hk : r.length < k) : laws_toHart.f k r p s = some (r, p, s) := by
  unfold laws_toHart.f
  rw [toIntS_eq r hl k hk]; rfl
def toHartV (x : S87) : S90 := ⟨x.f0, x.f1, x.f2⟩
theorem toHartS_eq (l : List S87) (hl : l.length ≤ 1048576) (hx : ∀ x ∈ l, x.f0.length ≤ 1048576) (k : Nat) (hk : 2200000 < k) : laws_toHartS.f k l = some (l.map toHartV) := by
  unfold laws_toHartS.f
  rw [if_pos (by omega), if_pos (by simp; omega)]
  have h := for_st l.length (fun k' i (s : List S90) => laws_toHartS.l0 (k' + 1048580) l s (i : Int)) (fun i => (l.map toHartV).take i ++ (List.replicate l.length z90).drop i) (l.map toHartV) ?_ ?_ (k - 1048580) 0 (Nat.zero_le _) (by omega)
  · rw [show k - 1048580 + 1048580 = k by omega] at h
    simpa using h
  · intro k' i hi
    rw [show k' + 1 + 1048580 = (k' + 1048580) + 1 by omega, laws_toHartS.l0]
    have hx' := hx _ (List.getElem_mem hi)
    rw [if_pos (by omega), if_pos (by omega), rdLHart l i hi, toHart_eq _ _ _ hx' _ (by omega), Option.bind_some, if_pos (by simp; omega), wrap_succ (by omega)]
    simp only [Int.toNat_natCast]
    have e : (⟨(l[i]).f0, (l[i]).f1, (l[i]).f2⟩ : S90) = (l.map toHartV)[i]'(by simpa using hi) := by simp [toHartV]
    rw [e, set_step _ _ _ (by simpa using hi) (by simp)]
  · intro k'
    rw [show k' + 1 + 1048580 = (k' + 1048580) + 1 by omega, laws_toHartS.l0]
    rw [if_neg (by omega)]; simp [List.take_of_length_le]
theorem rdHart (l : List S90) (i : Nat) (h : i < l.length) : rd_T90 l (i : Int) = l[i] := by
  unfold rd_T90; simp [List.getD, h]
theorem eqHartS_same (l : List S90) (hl : l.length ≤ 1048576) (hx : ∀ x ∈ l, x.f0.length ≤ 1048576) (k : Nat) (hk : 2200000 < k) : laws_eqHartS.f k l l = some true := by
  unfold laws_eqHartS.f
  rw [if_pos rfl]
  have h := for_st l.length (fun k' i (_ : Unit) => laws_eqHartS.l0 (k' + 1048580) l l (i : Int)) (fun _ => ()) true ?_ ?_ (k - 1048580) 0 (Nat.zero_le _) (by omega)
  · rw [show k - 1048580 + 1048580 = k by omega] at h; exact h
  · intro k' i hi
    have hx' := hx _ (List.getElem_mem hi)
    rw [show k' + 1 + 1048580 = (k' + 1048580) + 1 by omega, laws_eqHartS.l0]
    rw [if_pos (by omega), if_pos (by omega), if_pos (by omega), rdHart l i hi, eqHart_same _ _ _ hx' _ (by omega), Option.bind_some, if_pos rfl, wrap_succ (by omega)]
  · intro k'
    rw [show k' + 1 + 1048580 = (k' + 1048580) + 1 by omega, laws_eqHartS.l0]
    rw [if_neg (by omega)]
/-- Harts, marked from s on; the next mark. -/
def marksH : List S90 → Int → List S90 × Int
  | [], s => ([], s)
  | h :: t, s => (⟨iota s h.f0.length, s + h.f0.length, s + h.f0.length + 1⟩ :: (marksH t (s + h.f0.length + 2)).1, (marksH t (s + h.f0.length + 2)).2)
theorem marksH_le : ∀ (l : List S90) (s : Int), s ≤ (marksH l s).2
  | [], s => Int.le_refl _
  | h :: t, s => by have := marksH_le t (s + h.f0.length + 2); simp only [marksH]; omega
theorem marksH_len : ∀ (l : List S90) (s : Int), (marksH l s).1.length = l.length
  | [], s => rfl
  | h :: t, s => by simp only [marksH, List.length_cons, marksH_len t]
theorem marksH_bd (M : Nat) : ∀ (l : List S90) (s : Int), (∀ h ∈ l, h.f0.length ≤ M) → (marksH l s).2 ≤ s + (l.length : Int) * ((M : Int) + 2)
  | [], s, _ => by simp [marksH]
  | h :: t, s, hx => by
    have h1 := marksH_bd M t (s + h.f0.length + 2) (fun y hy => hx y (List.mem_cons_of_mem _ hy))
    have h2 := hx h (List.mem_cons_self ..)
    simp only [marksH, List.length_cons]
    have e : ((t.length + 1 : Nat) : Int) * ((M : Int) + 2) = (t.length : Int) * ((M : Int) + 2) + ((M : Int) + 2) := by rw [Int.natCast_add, Int.add_mul]; omega
    rw [e]; omega
theorem markHartS_l : ∀ (t p : List S90) (s : Int) (k : Nat), 0 ≤ s → (marksH t s).2 ≤ 1152921504606846976 → (∀ h ∈ t, h.f0.length ≤ 2097152) → p.length + t.length ≤ 2097152 → t.length + 2097160 < k →
    laws_markHartS.l0 k (p ++ t) s (p.length : Int) = some ((marksH t s).2, p ++ (marksH t s).1)
  | [], p, s, k, h0, hb, hx, hl, hk => by
    obtain ⟨k, rfl⟩ : ∃ m, k = m + 1 := ⟨k - 1, by omega⟩
    rw [laws_markHartS.l0, if_neg (by simp)]; rfl
  | h :: t, p, s, k, h0, hb, hx, hl, hk => by
    obtain ⟨k, rfl⟩ : ∃ m, k = m + 1 := ⟨k - 1, by omega⟩
    simp only [List.length_cons] at hl hk
    have hh := hx h (List.mem_cons_self ..)
    have hm := marksH_le t (s + h.f0.length + 2)
    simp only [marksH] at hb
    have e1 : rd_T90 (p ++ h :: t) (p.length : Int) = h := by rw [rdHart _ _ (by simp)]; simp
    rw [laws_markHartS.l0, if_pos (by simp; omega), if_pos (by omega), e1, markIntS_eq h.f0 s h0 (by omega) (by omega) k (by omega), Option.bind_some]
    dsimp only
    rw [wrap_small (x := s + (h.f0.length : Int) + 1) (by omega) (by omega), wrap_small (x := s + (h.f0.length : Int) + 1 + 1) (by omega) (by omega), wrap_succ (by omega), Int.toNat_natCast, List.set_append_right _ _ (Nat.le_refl _), Nat.sub_self, List.set_cons_zero]
    have := markHartS_l t (p ++ [⟨iota s h.f0.length, s + h.f0.length, s + h.f0.length + 1⟩]) (s + h.f0.length + 2) k (by omega) hb (fun y hy => hx y (List.mem_cons_of_mem _ hy)) (by simp; omega) (by omega)
    simp only [List.append_assoc, List.singleton_append, List.length_append, List.length_singleton] at this
    rw [show s + (h.f0.length : Int) + 1 + 1 = s + h.f0.length + 2 by omega, this]; rfl
theorem markHartS_eq (t : List S90) (s : Int) (h0 : 0 ≤ s) (hb : (marksH t s).2 ≤ 1152921504606846976) (hx : ∀ h ∈ t, h.f0.length ≤ 2097152) (hl : t.length ≤ 2097152) (k : Nat) (hk : 4200000 < k) : laws_markHartS.f k t s = some ((marksH t s).2, (marksH t s).1) := by
  unfold laws_markHartS.f
  have := markHartS_l t [] s k h0 hb hx (by simp; omega) (by omega)
  simpa using this
theorem rdHrt (l : List S90) (i : Nat) (h : i < l.length) : rd_T90 l (i : Int) = l[i] := by
  unfold rd_T90; simp [List.getD, h]
def hOk (h : S90) : Bool := hartB h.f0 h.f1 h.f2
def hBy (h : S90) : List Int := twoB h.f0 ++ [h.f1 % 256, h.f2 % 256]
theorem hBy_length (h : S90) (c : hOk h = true) : (hBy h).length = 10 := by unfold hBy; rw [List.length_append, twoB_length, hartB_len c]; rfl
/-- The bytes of a save. -/
def saveB (m : List Int) (hs : List S90) : List Int := if wordsB m 24 = true ∧ hs.length ≤ 8 ∧ hs.all hOk = true then ((hs.length : Int) % 256) :: (twoB m ++ hs.flatMap hBy) else []
theorem implSaveB_l (hs : List S90) (hx : ∀ h ∈ hs, h.f0.length ≤ 1048576) (hn : hs.length ≤ 8) : ∀ (d i : Nat) (acc : List Int) (k : Nat), i + d = hs.length → acc.length ≤ 100 + 10 * i → 2097160 + d < k →
    impl_SaveBytes.l0 k acc hs (hs.length : Int) (i : Int) = some (if (hs.drop i).all hOk = true then acc ++ (hs.drop i).flatMap hBy else [])
  | 0, i, acc, k, hi, ha, hk => by
    obtain ⟨k, rfl⟩ : ∃ m, k = m + 1 := ⟨k - 1, by omega⟩
    rw [impl_SaveBytes.l0, if_neg (by omega), List.drop_of_length_le (by omega)]; simp
  | d + 1, i, acc, k, hi, ha, hk => by
    obtain ⟨k, rfl⟩ : ∃ m, k = m + 1 := ⟨k - 1, by omega⟩
    have hd : hs.drop i = hs[i] :: hs.drop (i + 1) := List.drop_eq_getElem_cons (by omega)
    have hl := hx _ (List.getElem_mem (by omega : i < hs.length))
    rw [impl_SaveBytes.l0, if_pos (by omega), if_pos (by omega), if_pos (by omega), rdHrt hs i (by omega), implHartOk_eq _ _ _ (by omega) k (by omega), Option.bind_some, hd, List.all_cons, List.flatMap_cons]
    by_cases c : hOk hs[i] = true
    · have c' : hartB hs[i].f0 hs[i].f1 hs[i].f2 = true := c
      have e : hartBytesV hs[i].f0 hs[i].f1 hs[i].f2 = hBy hs[i] := by unfold hartBytesV; rw [if_pos c']; rfl
      have hb := hBy_length _ c
      rw [if_pos c', implHartBytes_eq _ _ _ hl k (by omega), Option.bind_some, e, if_pos (by omega), wrap_succ (by omega), implSaveB_l hs hx hn d (i + 1) _ k (by omega) (by rw [List.length_append, hb]; omega) (by omega), c, Bool.true_and, List.append_assoc]
    · have c' : ¬ hartB hs[i].f0 hs[i].f1 hs[i].f2 = true := c
      have c2 : hOk hs[i] = false := by simpa using c
      rw [if_neg c', c2, Bool.false_and]; rfl
theorem implSaveBytes_eq (m : List Int) (hs : List S90) (hm : m.length ≤ 1048576) (hx : ∀ h ∈ hs, h.f0.length ≤ 1048576) (hl : hs.length ≤ 1048576) (k : Nat) (hk : 2200000 < k) : impl_SaveBytes.f k m hs = some (saveB m hs) := by
  obtain ⟨k, rfl⟩ : ∃ m, k = m + 1 := ⟨k - 1, by omega⟩
  unfold impl_SaveBytes.f saveB
  rw [memOk_eq m (by omega) _ (by omega), Option.bind_some]
  by_cases hw : wordsB m 24 = true
  · rw [if_pos hw]
    by_cases hn : hs.length ≤ 8
    · rw [decide_eq_false (by omega), impl_SaveBytes.j0, if_neg (by simp), Option.bind_some, implMemBytes_eq m (by omega) k (by omega), Option.bind_some]
      have e : memB m = twoB m := by unfold memB; rw [if_pos hw]
      have l24 := wordsB_24 hw
      rw [e, if_pos (by rw [twoB_length, l24]; show 1 + 2 * 24 < _; omega)]
      have h := implSaveB_l hs hx hn hs.length 0 ([(hs.length : Int) % 256] ++ twoB m) k (by omega) (by rw [List.length_append, twoB_length, l24]; show 1 + 2 * 24 ≤ _; omega) (by omega)
      simp only [List.drop_zero] at h
      have h' : impl_SaveBytes.l0 k ([(hs.length : Int) % 256] ++ twoB m) hs (hs.length : Int) 0 = _ := h
      rw [h']
      by_cases c : hs.all hOk = true
      · rw [if_pos c, if_pos ⟨hw, hn, c⟩]; simp
      · rw [if_neg c, if_neg (fun hh => c hh.2.2)]
    · rw [decide_eq_true (by omega), impl_SaveBytes.j0, if_pos rfl, if_neg (fun hh => hn hh.2.1)]
  · rw [if_neg hw, impl_SaveBytes.j0, if_pos rfl, if_neg (fun hh => hw hh.1)]
theorem specSaveB_l (hs : List S90) (hx : ∀ h ∈ hs, h.f0.length ≤ 1048576) (hn : hs.length ≤ 8) : ∀ (d i : Nat) (acc : List Int) (k : Nat), i + d = hs.length → acc.length ≤ 100 + 10 * i → 2097160 + d < k →
    spec_SaveBytes.l0 k hs acc (i : Int) = some (if (hs.drop i).all hOk = true then acc ++ (hs.drop i).flatMap hBy else [])
  | 0, i, acc, k, hi, ha, hk => by
    obtain ⟨k, rfl⟩ : ∃ m, k = m + 1 := ⟨k - 1, by omega⟩
    rw [spec_SaveBytes.l0, if_neg (by omega), List.drop_of_length_le (by omega)]; simp
  | d + 1, i, acc, k, hi, ha, hk => by
    obtain ⟨k, rfl⟩ : ∃ m, k = m + 1 := ⟨k - 1, by omega⟩
    have hd : hs.drop i = hs[i] :: hs.drop (i + 1) := List.drop_eq_getElem_cons (by omega)
    have hl := hx _ (List.getElem_mem (by omega : i < hs.length))
    rw [spec_SaveBytes.l0, if_pos (by omega), if_pos (by omega), rdHrt hs i (by omega), specHartBytes_eq _ _ _ hl k (by omega), Option.bind_some, hd, List.all_cons, List.flatMap_cons]
    by_cases c : hOk hs[i] = true
    · have c' : hartB hs[i].f0 hs[i].f1 hs[i].f2 = true := c
      have e : hartBytesV hs[i].f0 hs[i].f1 hs[i].f2 = hBy hs[i] := by unfold hartBytesV; rw [if_pos c']; rfl
      have hb := hBy_length _ c
      rw [e, if_neg (by omega), if_pos (by omega), wrap_succ (by omega), specSaveB_l hs hx hn d (i + 1) _ k (by omega) (by rw [List.length_append, hb]; omega) (by omega), c, Bool.true_and, List.append_assoc]
    · have c' : ¬ hartB hs[i].f0 hs[i].f1 hs[i].f2 = true := c
      have c2 : hOk hs[i] = false := by simpa using c
      have e : hartBytesV hs[i].f0 hs[i].f1 hs[i].f2 = [] := by unfold hartBytesV; rw [if_neg c']
      rw [e, if_pos (by simp), c2, Bool.false_and]; rfl
theorem specSaveBytes_eq (m : List Int) (hs : List S90) (hm : m.length ≤ 1048576) (hx : ∀ h ∈ hs, h.f0.length ≤ 1048576) (hl : hs.length ≤ 1048576) (k : Nat) (hk : 2200000 < k) : spec_SaveBytes.f k m hs = some (saveB m hs) := by
  obtain ⟨k, rfl⟩ : ∃ m, k = m + 1 := ⟨k - 1, by omega⟩
  unfold spec_SaveBytes.f saveB
  rw [specMemBytes_eq m (by omega) _ (by omega), Option.bind_some]
  by_cases hw : wordsB m 24 = true
  · have e : memB m = twoB m := by unfold memB; rw [if_pos hw]
    have l24 := wordsB_24 hw
    rw [e, if_neg (by rw [twoB_length, l24]; simp)]
    by_cases hn : hs.length ≤ 8
    · rw [decide_eq_false (by omega), spec_SaveBytes.j0, if_neg (by simp), Option.bind_some, if_pos (by rw [twoB_length, l24]; show 1 + 2 * 24 < _; omega)]
      have h := specSaveB_l hs hx hn hs.length 0 ([(hs.length : Int) % 256] ++ twoB m) k (by omega) (by rw [List.length_append, twoB_length, l24]; show 1 + 2 * 24 ≤ _; omega) (by omega)
      simp only [List.drop_zero] at h
      have h' : spec_SaveBytes.l0 k hs ([(hs.length : Int) % 256] ++ twoB m) 0 = _ := h
      rw [h']
      by_cases c : hs.all hOk = true
      · rw [if_pos c, if_pos ⟨hw, hn, c⟩]; simp
      · rw [if_neg c, if_neg (fun hh => c hh.2.2)]
    · rw [decide_eq_true (by omega), spec_SaveBytes.j0, if_pos rfl, if_neg (fun hh => hn hh.2.1)]
  · have e : memB m = [] := by unfold memB; rw [if_neg hw]
    rw [e, if_pos (by simp), spec_SaveBytes.j0, if_pos rfl, if_neg (fun hh => hw hh.1)]
theorem saveB_len (m : List Int) (hs : List S90) : (saveB m hs).length ≤ 200 := by
  unfold saveB
  split
  · rename_i h
    have go : ∀ l : List S90, l.all hOk = true → (l.flatMap hBy).length = 10 * l.length := by
      intro l
      induction l with
      | nil => intro _; rfl
      | cons a l ih =>
        intro h
        rw [List.all_cons, Bool.and_eq_true] at h
        rw [List.flatMap_cons, List.length_append, hBy_length a h.1, ih h.2, List.length_cons]; omega
    have h1 := go hs h.2.2
    have h2 := wordsB_24 h.1
    rw [List.length_cons, List.length_append, twoB_length, h1, h2]; omega
  · simp
theorem FnExactSaveBytes : laws_FnExactSaveBytes.Pure := by
  rintro m l ⟨hm, _⟩ ⟨hl, hx⟩
  obtain ⟨K, hK⟩ : ∃ K : Nat, 5000000 ≤ K := ⟨_, Nat.le_refl _⟩
  refine ⟨K, ?_⟩
  unfold laws_FnExactSaveBytes.f
  by_cases hg : (m.length : Int) > 1048576
  · rw [if_pos hg]
  have hm' : m.length ≤ 1048576 := by omega
  obtain ⟨q, e, hq⟩ := szHartS_ex l 1048576 (by omega) (by omega) hl (fun x hxm => (hx x hxm).1.1) K (by omega)
  rw [if_neg hg, e, Option.bind_some]
  by_cases h : q < 0
  · rw [if_pos h]
  obtain ⟨hl', hx'⟩ := hq (by omega)
  have e1 := toIntS_eq m hm' K (by omega)
  have e2 := toHartS_eq l hl' hx' K (by omega)
  have hL : (l.map toHartV).length ≤ 1048576 := by simpa using hl'
  have hX : ∀ x ∈ l.map toHartV, x.f0.length ≤ 1048576 := fun x hxm => by
    obtain ⟨y, hy, rfl⟩ := List.mem_map.1 hxm
    exact hx' y hy
  generalize l.map toHartV = hs at e2 hL hX
  have e3 := specSaveBytes_eq m hs hm' hX hL K (by omega)
  have e4 := implSaveBytes_eq m hs hm' hX hL K (by omega)
  have hb := saveB_len m hs
  generalize saveB m hs = v at e3 e4 hb
  have e5 : laws_eqByteS.f K v v = some true := by rw [eqByteS_eq v v (by omega) K (by omega), decide_eq_true rfl]
  have e6 : laws_eqIntS.f K m m = some true := by rw [eqIntS_eq m m (by omega) K (by omega), decide_eq_true rfl]
  have e7 : laws_eqHartS.f K hs hs = some true := eqHartS_same hs hL hX K (by omega)
  have e8 := markIntS_eq m 1 (by omega) (by omega) (by omega) K (by omega)
  have hbd := marksH_bd 1048576 hs (1 + (m.length : Int)) hX
  have hge := marksH_le hs (1 + (m.length : Int))
  have hbd' : (marksH hs (1 + (m.length : Int))).2 ≤ 1152921504606846976 := by omega
  have e9 := markHartS_eq hs (1 + (m.length : Int)) (by omega) hbd' (fun x hx => by have := hX x hx; omega) (by omega) K (by omega)
  have e10 := markByteS_eq v 1 (by omega) (by omega) (by omega) K (by omega)
  have e11 := heldByteS_eq 1 v.length (by omega) (by omega) (by omega) K (by omega)
  rw [if_neg h, e1, Option.bind_some, e2, Option.bind_some, e3, Option.bind_some, Option.bind_some, Option.bind_some, e4, Option.bind_some, e5, Option.bind_some, if_pos rfl, Option.bind_some, e6, Option.bind_some, if_pos rfl, Option.bind_some, e7, Option.bind_some, if_pos rfl, e8, Option.bind_some]
  try dsimp only
  rw [e9, Option.bind_some]
  try dsimp only
  rw [if_neg (by omega), Option.bind_some, if_pos rfl, e10, Option.bind_some]
  try dsimp only
  rw [e11, Option.bind_some, if_neg (by omega), if_pos rfl, Option.bind_some, Option.bind_some, e4, Option.bind_some, e5, Option.bind_some, if_pos rfl, Option.bind_some, if_neg (by omega), if_pos rfl]
end Go.Proofs.Ytbbieaglfgipnaa.Pure
