/- For all bytes, the program's SaveOf returns what the reference's SaveOf returns, keeps its argument, and shares no memory: no conditions. -/
import Derived.Test.YtbbieaglfgipnaaPFnExactSaveOfx8
import Derived.Lib.Bytes
namespace Go.Proofs.Ytbbieaglfgipnaa.Pure
open Go.RowKit Go.Proofs.Ytbbieaglfgipnaa.PFnExactSaveOf Go.Proofs.YtbbieaglfgipnaaW.PrintWords Go.Proofs.YtbbieaglfgipnaaW.PrintLast
set_option linter.unusedVariables false
set_option linter.unusedSimpArgs false

theorem wrap_small {x : Int} (h0 : -9223372036854775808 ≤ x) (h : x ≤ 9223372036854775807) : wrap64 x = x := by
  unfold wrap64; omega
theorem wrap_succ {i : Nat} (h : i < 4611686018427387904) : wrap64 ((i : Int) + 1) = ((i + 1 : Nat) : Int) := by
  unfold wrap64; omega
theorem rd_nat (l : List Int) (i : Nat) (h : i < l.length) : rd l (i : Int) = l[i] := by
  unfold rd; simp [List.getD, h]
theorem rd_mem (l : List Int) (i : Nat) (h : i < l.length) : rd l (i : Int) ∈ l := by
  rw [rd_nat l i h]; exact List.getElem_mem h
/-- A loop whose state is known ahead of each round. -/
theorem for_st {σ ρ : Type} (n : Nat) (L : Nat → Nat → σ → Option ρ) (st : Nat → σ) (r : ρ) (hs : ∀ k i, i < n → L (k + 1) i (st i) = L k (i + 1) (st (i + 1))) (he : ∀ k, L (k + 1) n (st n) = some r) :
    ∀ (k i : Nat), i ≤ n → n < i + k → L k i (st i) = some r
  | 0, i, hi, hk => by omega
  | k + 1, i, hi, hk => by
    by_cases h : i < n
    · rw [hs k i h]; exact for_st n L st r hs he k (i + 1) (by omega) (by omega)
    · have : i = n := by omega
      subst this; exact he k
/-- A loop that ends at the first place where p holds. -/
theorem for_find {ρ : Type} (n : Nat) (L : Nat → Nat → Option ρ) (p : Nat → Prop) (b : Nat → ρ) (r : ρ) (hs : ∀ k i, i < n → ¬ p i → L (k + 1) i = L k (i + 1)) (hb : ∀ k i, i < n → p i → L (k + 1) i = some (b i)) (he : ∀ k, L (k + 1) n = some r) :
    ∀ (k i : Nat), i ≤ n → n < i + k → (∃ j, i ≤ j ∧ j < n ∧ p j ∧ (∀ m, i ≤ m → m < j → ¬ p m) ∧ L k i = some (b j)) ∨ (∀ j, i ≤ j → j < n → ¬ p j) ∧ L k i = some r
  | 0, i, hi, hk => by omega
  | k + 1, i, hi, hk => by
    by_cases h : i < n
    · by_cases hp : p i
      · exact .inl ⟨i, Nat.le_refl _, h, hp, fun m h1 h2 => by omega, hb k i h hp⟩
      · rw [hs k i h hp]
        rcases for_find n L p b r hs hb he k (i + 1) (by omega) (by omega) with ⟨j, h1, h2, h3, h4, h5⟩ | ⟨h1, h2⟩
        · refine .inl ⟨j, by omega, h2, h3, fun m hm1 hm2 => ?_, h5⟩
          by_cases e : m = i
          · subst e; exact hp
          · exact h4 m (by omega) hm2
        · refine .inr ⟨fun j hj1 hj2 => ?_, h2⟩
          by_cases e : j = i
          · subst e; exact hp
          · exact h1 j (by omega) hj2
    · have : i = n := by omega
      subst this; exact .inr ⟨fun j h1 h2 => by omega, he k⟩
/-- The same for a Bool: do all places pass? -/
theorem for_all {n : Nat} {L : Nat → Nat → Option Bool} (p : Nat → Prop) (hs : ∀ k i, i < n → p i → L (k + 1) i = L k (i + 1)) (hb : ∀ k i, i < n → ¬ p i → L (k + 1) i = some false) (c : Bool) (he : ∀ k, L (k + 1) n = some c) {q : Bool}
    (hq : q = true ↔ (∀ j, j < n → p j) ∧ c = true) (k : Nat) (hk : n < k) : L k 0 = some q := by
  rcases for_find n L (fun i => ¬ p i) (fun _ => false) c (fun k i h hp => hs k i h (Classical.not_not.1 hp)) (fun k i h hp => hb k i h hp) he k 0 (Nat.zero_le _) (by omega) with ⟨j, _, h2, h3, _, h5⟩ | ⟨h1, h2⟩
  · rw [h5]; congr 1; symm
    rw [Bool.eq_false_iff]; intro hh; exact h3 ((hq.1 hh).1 j h2)
  · rw [h2]; congr 1
    have : ∀ j, j < n → p j := fun j hj => Classical.not_not.1 (h1 j (Nat.zero_le _) hj)
    rw [Bool.eq_iff_iff, hq]; exact ⟨fun h => ⟨this, h⟩, fun h => h.2⟩
/-- What is written, place by place. -/
theorem set_step {α : Type} (a b : List α) (i : Nat) (hi : i < a.length) (hb : b.length = a.length) : (a.take i ++ b.drop i).set i (a[i]'hi) = a.take (i + 1) ++ b.drop (i + 1) := by
  rw [List.set_append_right _ _ (by simp; omega), List.length_take, Nat.min_eq_left (by omega), Nat.sub_self, List.take_succ_eq_append_getElem hi, List.append_assoc]
  congr 1
  rw [List.drop_eq_getElem_cons (by omega)]
  rfl
theorem snoc_step {α : Type} (a : List α) (i : Nat) (hi : i < a.length) : a.take i ++ [a[i]'hi] = a.take (i + 1) := by
  rw [List.take_succ_eq_append_getElem hi]
theorem eq_iff_all (a b : List Int) (h : a.length = b.length) : a = b ↔ ∀ j, j < a.length → rd a (j : Int) = rd b (j : Int) := by
  constructor
  · rintro rfl j _; rfl
  · intro hh; refine List.ext_getElem h (fun j h1 h2 => ?_)
    have := hh j h1
    rwa [rd_nat a j h1, rd_nat b j h2] at this
/-- What marks hold: s, s + 1, .. -/
def iota (s : Int) (n : Nat) : List Int := (List.range n).map fun (i : Nat) => s + (i : Int)
theorem iota_length (s : Int) (n : Nat) : (iota s n).length = n := by simp [iota]
theorem iota_get (s : Int) (n i : Nat) (h : i < n) : (iota s n)[i]'(by rw [iota_length]; exact h) = s + i := by simp [iota]
/-- The same as bytes. -/
def iota8 (s : Int) (n : Nat) : List Int := (List.range n).map fun (i : Nat) => (s + (i : Int)) % 256
theorem iota8_length (s : Int) (n : Nat) : (iota8 s n).length = n := by simp [iota8]
theorem iota8_get (s : Int) (n i : Nat) (h : i < n) : (iota8 s n)[i]'(by rw [iota8_length]; exact h) = (s + i) % 256 := by simp [iota8]
theorem wraps_i64 (n : Int) (h0 : 0 ≤ n) (h1 : n < 2 ^ 62) : IntKind.i64.wrap n = n := by rw [IntKind.wrap_i64]; omega
theorem and255 (x : Int) (h0 : 0 ≤ x) (h : x ≤ 65535) : Go.bits .and .i64 x 255 = x % 256 := bits_mask .i64 62 (by decide) wraps_i64 8 (by decide) x h0 (by omega)
/-- Does a search find something. -/
theorem idx_any {n : Nat} (L : Nat → Nat → Option Int) (q : Nat → Bool) (hs : ∀ k i, i < n → q i = false → L (k + 1) i = L k (i + 1)) (hb : ∀ k i, i < n → q i = true → L (k + 1) i = some (i : Int)) (he : ∀ k, L (k + 1) n = some (-1)) (r : Bool)
    (hr : r = true ↔ ∃ j, j < n ∧ q j = true) (k : Nat) (hk : n < k) : ∃ v, L k 0 = some v ∧ decide (v ≥ 0) = r := by
  rcases for_find n L (fun i => q i = true) (fun i => (i : Int)) (-1) (fun k i h hp => hs k i h (by simpa using hp)) hb he k 0 (Nat.zero_le _) (by omega) with ⟨j, _, h2, h3, _, h5⟩ | ⟨h1, h2⟩
  · refine ⟨_, h5, ?_⟩
    rw [decide_eq_true (by omega : (j : Int) ≥ 0)]; exact (hr.2 ⟨j, h2, h3⟩).symm
  · refine ⟨_, h2, ?_⟩
    rw [decide_eq_false (by omega : ¬ (-1 : Int) ≥ 0)]; symm; rw [Bool.eq_false_iff]; intro hh
    obtain ⟨j, hj, hq⟩ := hr.1 hh
    exact h1 j (Nat.zero_le _) hj hq
/-- A count that goes down, item by item, and stops below nothing. -/
theorem sz_loop {n C : Nat} {M : Int} (L : Nat → Nat → Int → Option Int) (P : Nat → Prop) (hs : ∀ k i a, i < n → C ≤ k → 0 ≤ a → a ≤ M → (∃ r, r < 0 ∧ L (k + 1) i a = some r) ∨ ∃ t, 0 ≤ t ∧ t ≤ a ∧ P i ∧ L (k + 1) i a = L k (i + 1) t)
    (he : ∀ k a, L (k + 1) n a = some a) : ∀ (m i : Nat) (a : Int), i ≤ n → n < i + m → 0 ≤ a → a ≤ M → ∃ r, L (m + C) i a = some r ∧ r ≤ a ∧ (0 ≤ r → ∀ j, i ≤ j → j < n → P j)
  | 0, i, a, hi, hm, _, _ => by omega
  | m + 1, i, a, hi, hm, h0, h1 => by
    rw [show m + 1 + C = (m + C) + 1 by omega]
    by_cases h : i < n
    · rcases hs (m + C) i a h (by omega) h0 h1 with ⟨r, hr, e⟩ | ⟨t, ht0, ht, hp, e⟩
      · exact ⟨r, e, by omega, fun h => by omega⟩
      · obtain ⟨r, e2, hr, hq⟩ := sz_loop L P hs he m (i + 1) t (by omega) (by omega) ht0 (by omega)
        refine ⟨r, by rw [e, e2], by omega, fun h0 j hj1 hj2 => ?_⟩
        by_cases c : j = i
        · subst c; exact hp
        · exact hq h0 j (by omega) hj2
    · have : i = n := by omega
      subst this
      exact ⟨a, he _ _, Int.le_refl _, fun _ j h1 h2 => by omega⟩
/-- A list made place by place. -/
theorem to_loop {α : Type} {C : Nat} (v z : List α) (hz : z.length = v.length) (L : Nat → Nat → List α → Option (List α)) (hs : ∀ k i s (hi : i < v.length), C ≤ k → s.length = v.length → L (k + 1) i s = L k (i + 1) (s.set i (v[i]'hi)))
    (he : ∀ k s, L (k + 1) v.length s = some s) (k : Nat) (hk : v.length + C < k) : L k 0 z = some v := by
  have h := for_st v.length (fun k' i (s : List α) => L (k' + C) i s) (fun i => v.take i ++ z.drop i) v ?_ ?_ (k - C) 0 (Nat.zero_le _) (by omega)
  · rw [show k - C + C = k by omega] at h; simpa using h
  · intro k' i hi
    rw [show k' + 1 + C = (k' + C) + 1 by omega, hs _ _ _ hi (by omega) (by simp; omega), set_step _ _ _ hi hz]
  · intro k'
    rw [show k' + 1 + C = (k' + C) + 1 by omega, he, List.take_of_length_le (Nat.le_refl _), List.drop_of_length_le (by omega), List.append_nil]
/-- Equal, place by place. -/
theorem same_loop {n C : Nat} (L : Nat → Nat → Option Bool) (hs : ∀ k i, i < n → C ≤ k → L (k + 1) i = L k (i + 1)) (he : ∀ k, L (k + 1) n = some true) (k : Nat) (hk : n + C < k) : L k 0 = some true := by
  have h := for_st n (fun k' i (_ : Unit) => L (k' + C) i) (fun _ => ()) true ?_ ?_ (k - C) 0 (Nat.zero_le _) (by omega)
  · rw [show k - C + C = k by omega] at h; exact h
  · intro k' i hi; rw [show k' + 1 + C = (k' + C) + 1 by omega, hs _ _ hi (by omega)]
  · intro k'; rw [show k' + 1 + C = (k' + C) + 1 by omega, he]
def wordsB (l : List Int) (n : Int) : Bool := decide ((l.length : Int) = n) && l.all (fun x => decide (0 ≤ x ∧ x ≤ 65535))
theorem wordsB_mem {l : List Int} {n : Int} (h : wordsB l n = true) (x : Int) (hx : x ∈ l) : 0 ≤ x ∧ x ≤ 65535 := by
  unfold wordsB at h; rw [Bool.and_eq_true, List.all_eq_true] at h; exact of_decide_eq_true (h.2 x hx)
/-- Is it a hart: four words, a cell, a state. -/
def hartB (regs : List Int) (pc st : Int) : Bool := wordsB regs 4 && (decide (0 ≤ pc ∧ pc ≤ 23) && decide (0 ≤ st ∧ st ≤ 2))
theorem ite_some' (b c : Bool) : (if b = true then some c else some false) = some (b && c) := by cases b <;> rfl
theorem hartB_len {r : List Int} {p s : Int} (h : hartB r p s = true) : r.length = 4 := by
  unfold hartB wordsB at h; rw [Bool.and_eq_true, Bool.and_eq_true] at h; have := of_decide_eq_true h.1.1; omega
theorem wordsB_24 {l : List Int} (h : wordsB l 24 = true) : l.length = 24 := by unfold wordsB at h; rw [Bool.and_eq_true] at h; have := of_decide_eq_true h.1; omega
theorem tmod_pos (n c : Int) (h : 0 ≤ n) : Int.tmod n c = n % c := Int.tmod_eq_emod_of_nonneg h
theorem tmod_neg (n c : Int) (h : n < 0) : Int.tmod n c = -((-n) % c) := by
  rw [← Int.tmod_eq_emod_of_nonneg (by omega : 0 ≤ -n), Int.neg_tmod, Int.neg_neg]
theorem tdiv_pos (n c : Int) (h : 0 ≤ n) : Int.tdiv n c = n / c := Int.tdiv_eq_ediv_of_nonneg h
/-- A remainder brought up from below nothing. -/
theorem tmod_up (n c : Int) (hc : 0 < c) (hb : c ≤ 4294967296) : Int.tmod (Int.tmod n c + c) c = n % c := by
  have h1 := Int.emod_nonneg n (by omega : c ≠ 0)
  have h2 := Int.emod_lt_of_pos n hc
  rcases Int.lt_or_le n 0 with h | h
  · rw [tmod_neg n c h]
    have h3 := Int.emod_nonneg (-n) (by omega : c ≠ 0)
    have h4 := Int.emod_lt_of_pos (-n) hc
    rw [tmod_pos _ _ (by omega), Int.add_emod_right, ← Int.sub_emod_right]
    have := Int.emod_add_mul_ediv (-n) c
    have e : -(-n % c) - c = n + c * ((-n) / c - 1) := by
      have : n = -(-n % c) - c * ((-n) / c) := by omega
      rw [Int.mul_sub]; omega
    rw [e, Int.add_mul_emod_self_left]
  · rw [tmod_pos n c h, tmod_pos _ _ (by omega), Int.add_emod_right, Int.emod_emod_of_dvd _ (Int.dvd_refl c)]
theorem tmod_bd (n c : Int) (hc : 0 < c) : -c < Int.tmod n c ∧ Int.tmod n c < c := by
  rcases Int.lt_or_le n 0 with h | h
  · rw [tmod_neg n c h]
    have h3 := Int.emod_nonneg (-n) (by omega : c ≠ 0)
    have h4 := Int.emod_lt_of_pos (-n) hc
    omega
  · rw [tmod_pos n c h]
    have h3 := Int.emod_nonneg n (by omega : c ≠ 0)
    have h4 := Int.emod_lt_of_pos n hc
    omega
/-- for_st, where some rounds stay over. -/
theorem for_stC {σ ρ : Type} (C n : Nat) (L : Nat → Nat → σ → Option ρ) (st : Nat → σ) (r : ρ) (hs : ∀ k i, C ≤ k → i < n → L (k + 1) i (st i) = L k (i + 1) (st (i + 1))) (he : ∀ k, C ≤ k → L (k + 1) n (st n) = some r) :
    ∀ (k i : Nat), i ≤ n → n + C < i + k → L k i (st i) = some r
  | 0, i, hi, hk => by omega
  | k + 1, i, hi, hk => by
    by_cases h : i < n
    · rw [hs k i (by omega) h]; exact for_stC C n L st r hs he k (i + 1) (by omega) (by omega)
    · have : i = n := by omega
      subst this; exact he k (by omega)
theorem toByteS_eq (l : List Int) (hl : l.length ≤ 1048576) (k : Nat) (hk : l.length < k) : laws_toByteS.f k l = some l := by
  unfold laws_toByteS.f
  rw [if_pos (by omega), if_pos (by simp; omega)]
  have h := for_st l.length (fun k i s => laws_toByteS.l0 k l s (i : Int)) (fun i => l.take i ++ (List.replicate l.length 0).drop i) l ?_ ?_ k 0 (Nat.zero_le _) (by omega)
  · simpa using h
  · intro k i hi
    simp only [laws_toByteS.l0]
    rw [if_pos (by omega), if_pos (by omega), if_pos (by simp; omega), wrap_succ (by omega), rd_nat l i hi]
    simp only [Int.toNat_natCast]
    rw [set_step _ _ _ hi (by simp)]
  · intro k
    simp only [laws_toByteS.l0]
    rw [if_neg (by omega)]; simp
theorem eqIntS_eq (a b : List Int) (hl : a.length ≤ 1048576) (k : Nat) (hk : a.length < k) : laws_eqIntS.f k a b = some (decide (a = b)) := by
  unfold laws_eqIntS.f
  by_cases h : a.length = b.length
  · rw [if_pos (by omega)]
    refine for_all (L := fun k i => laws_eqIntS.l0 k a b (i : Int)) (n := a.length) (fun j => rd a (j : Int) = rd b (j : Int)) ?_ ?_ true ?_ ?_ k hk
    · intro k i hi hp
      simp only [laws_eqIntS.l0]
      rw [if_pos (by omega), if_pos (by omega), if_pos (by omega), if_pos hp, wrap_succ (by omega)]
    · intro k i hi hp
      simp only [laws_eqIntS.l0]
      rw [if_pos (by omega), if_pos (by omega), if_pos (by omega), if_neg hp]
    · intro k
      simp only [laws_eqIntS.l0]
      rw [if_neg (by omega)]
    · rw [decide_eq_true_iff, eq_iff_all a b h]; simp
  · rw [if_neg (by omega)]
    have : a ≠ b := fun hh => h (by rw [hh])
    simp [this]
theorem eqByteS_eq (a b : List Int) (hl : a.length ≤ 2097152) (k : Nat) (hk : a.length < k) : laws_eqByteS.f k a b = some (decide (a = b)) := by
  unfold laws_eqByteS.f
  by_cases h : a.length = b.length
  · rw [if_pos (by omega)]
    refine for_all (L := fun k i => laws_eqByteS.l0 k a b (i : Int)) (n := a.length) (fun j => rd a (j : Int) = rd b (j : Int)) ?_ ?_ true ?_ ?_ k hk
    · intro k i hi hp
      simp only [laws_eqByteS.l0]
      rw [if_pos (by omega), if_pos (by omega), if_pos (by omega), if_pos hp, wrap_succ (by omega)]
    · intro k i hi hp
      simp only [laws_eqByteS.l0]
      rw [if_pos (by omega), if_pos (by omega), if_pos (by omega), if_neg hp]
    · intro k
      simp only [laws_eqByteS.l0]
      rw [if_neg (by omega)]
    · rw [decide_eq_true_iff, eq_iff_all a b h]; simp
  · rw [if_neg (by omega)]
    have : a ≠ b := fun hh => h (by rw [hh])
    simp [this]
theorem markIntS_eq (l : List Int) (s : Int) (h0 : 0 ≤ s) (h1 : s ≤ 4294967296) (hl : l.length ≤ 2097152) (k : Nat) (hk : l.length < k) : laws_markIntS.f k l s = some (s + l.length, iota s l.length) := by
  unfold laws_markIntS.f
  have h := for_st l.length (fun k i (t : List Int × Int) => laws_markIntS.l0 k t.1 t.2 (i : Int)) (fun i => ((iota s l.length).take i ++ l.drop i, s + (i : Int))) (s + l.length, iota s l.length) ?_ ?_ k 0 (Nat.zero_le _) (by omega)
  · simpa using h
  · intro k i hi
    simp only [laws_markIntS.l0]
    rw [if_pos (by simp [iota_length]; omega), if_pos (by omega), wrap_succ (by omega), wrap_small (by omega) (by omega)]
    simp only [Int.toNat_natCast]
    rw [← iota_get s l.length i hi, set_step _ _ _ (by rw [iota_length]; exact hi) (by rw [iota_length])]
    congr 1
    rw [iota_get s l.length i hi]; omega
  · intro k
    simp only [laws_markIntS.l0]
    rw [if_neg (by simp [iota_length])]
    simp [List.take_of_length_le, iota_length]
theorem heldIntS_eq (s : Int) (n : Nat) (h0 : 0 ≤ s) (h1 : s ≤ 4294967296) (hl : n ≤ 2097152) (k : Nat) (hk : n < k) : laws_heldIntS.f k (iota s n) s = some (s + n) := by
  unfold laws_heldIntS.f
  have h := for_st n (fun k i (t : Int) => laws_heldIntS.l0 k (iota s n) t (i : Int)) (fun i => s + (i : Int)) (s + n) ?_ ?_ k 0 (Nat.zero_le _) (by omega)
  · simpa using h
  · intro k i hi
    simp only [laws_heldIntS.l0]
    rw [if_pos (by simp [iota_length]; omega), if_pos (by omega), rd_nat _ _ (by rw [iota_length]; exact hi), if_pos (iota_get s n i hi), wrap_succ (by omega), wrap_small (by omega) (by omega)]
    congr 1; omega
  · intro k
    simp only [laws_heldIntS.l0]
    rw [if_neg (by simp [iota_length])]
theorem markByteS_eq (l : List Int) (s : Int) (h0 : 0 ≤ s) (h1 : s ≤ 4294967296) (hl : l.length ≤ 2097152) (k : Nat) (hk : l.length < k) : laws_markByteS.f k l s = some (s + l.length, iota8 s l.length) := by
  unfold laws_markByteS.f
  have h := for_st l.length (fun k i (t : List Int × Int) => laws_markByteS.l0 k t.1 t.2 (i : Int)) (fun i => ((iota8 s l.length).take i ++ l.drop i, s + (i : Int))) (s + l.length, iota8 s l.length) ?_ ?_ k 0 (Nat.zero_le _) (by omega)
  · simpa using h
  · intro k i hi
    simp only [laws_markByteS.l0]
    rw [if_pos (by simp [iota8_length]; omega), if_pos (by omega), wrap_succ (by omega), wrap_small (by omega) (by omega)]
    simp only [Int.toNat_natCast]
    rw [← iota8_get s l.length i hi, set_step _ _ _ (by rw [iota8_length]; exact hi) (by rw [iota8_length])]
    congr 1
    omega
  · intro k
    simp only [laws_markByteS.l0]
    rw [if_neg (by simp [iota8_length])]
    simp [List.take_of_length_le, iota8_length]
/-- Word i of bytes, two each. -/
def wordAt (l : List Int) (i : Nat) : Int := Go.bits .or .i64 (wrap64 ((wrap64 (rd l ((2 * i : Nat) : Int))) * 256)) (wrap64 (rd l ((2 * i + 1 : Nat) : Int)))
def wordsOf (l : List Int) : List Int := (List.range (l.length / 2)).map (wordAt l)
theorem wordsOf_length (l : List Int) : (wordsOf l).length = l.length / 2 := by simp [wordsOf]
theorem l22Words_eq (l : List Int) (hl : l.length ≤ 2097152) (k : Nat) (hk : l.length < k) : spec_l22Words.f k l = some (wordsOf l) := by
  unfold spec_l22Words.f
  have h := for_st (l.length / 2) (fun k i (s : List Int) => spec_l22Words.l0 k l s ((2 * i : Nat) : Int)) (fun i => (List.range i).map (wordAt l)) (wordsOf l) ?_ ?_ k 0 (Nat.zero_le _) (by omega)
  · simpa using h
  · intro k i hi
    simp only [spec_l22Words.l0]
    have e1 : wrap64 (((2 * i : Nat) : Int) + 1) = ((2 * i + 1 : Nat) : Int) := by unfold wrap64; omega
    have e2 : wrap64 (((2 * i : Nat) : Int) + 2) = ((2 * (i + 1) : Nat) : Int) := by unfold wrap64; omega
    rw [e1, e2, if_pos (by omega), if_pos (by omega), if_pos (by omega), if_pos (by omega), if_pos (by simp; omega), List.range_succ, List.map_append]
    rfl
  · intro k
    simp only [spec_l22Words.l0]
    rw [if_neg (by unfold wrap64; omega)]
    rfl
theorem wordsIn_same (l : List Int) : ∀ k x3 x4, impl_wordsIn.l0 k l x3 x4 = spec_l22Words.l0 k l x3 x4
  | 0, _, _ => rfl
  | k + 1, x3, x4 => by simp only [impl_wordsIn.l0, spec_l22Words.l0, wordsIn_same l k]
theorem wordsIn_eq (l : List Int) (hl : l.length ≤ 2097152) (k : Nat) (hk : l.length < k) : impl_wordsIn.f k l = some (wordsOf l) := by
  rw [← l22Words_eq l hl k hk]; exact wordsIn_same l k _ _
theorem l1In_eq (x lo hi : Int) : spec_l1In.f x lo hi = some (decide (lo ≤ x ∧ x ≤ hi)) := by
  unfold spec_l1In.f
  by_cases h : x ≥ lo
  · rw [if_pos h]; have h' : lo ≤ x := h; simp [h']
  · rw [if_neg h]; have h' : ¬ lo ≤ x := h; simp [h']
theorem from_eq (x lo hi : Int) : impl_from.f x lo hi = some (decide (lo ≤ x ∧ x ≤ hi)) := by
  unfold impl_from.f
  by_cases h : x ≥ lo
  · rw [if_pos h]; have h' : lo ≤ x := h; simp [h']
  · rw [if_neg h]; have h' : ¬ lo ≤ x := h; simp [h']
theorem isWord_eq (x : Int) : impl_isWord.f x = some (decide (0 ≤ x ∧ x ≤ 65535)) := by
  unfold impl_isWord.f; rw [from_eq]; rfl
theorem isCell_eq (x : Int) : impl_isCell.f x = some (decide (0 ≤ x ∧ x ≤ 23)) := by
  unfold impl_isCell.f; rw [from_eq]; rfl
theorem l1Words_eq (l : List Int) (n : Int) (hl : l.length ≤ 2097152) (k : Nat) (hk : l.length < k) : spec_l1Words.f k l n = some (wordsB l n) := by
  unfold spec_l1Words.f
  refine for_all (L := fun k i => spec_l1Words.l0 k l n (i : Int)) (n := l.length) (fun j => 0 ≤ rd l (j : Int) ∧ rd l (j : Int) ≤ 65535) ?_ ?_ (decide ((l.length : Int) = n)) ?_ ?_ k hk
  · intro k i hi hp
    simp only [spec_l1Words.l0]
    rw [if_pos (by omega), if_pos (by omega), l1In_eq, decide_eq_true hp, Option.bind_some, if_pos rfl, wrap_succ (by omega)]
  · intro k i hi hp
    simp only [spec_l1Words.l0]
    rw [if_pos (by omega), if_pos (by omega), l1In_eq, decide_eq_false hp, Option.bind_some, if_neg (by simp)]
  · intro k
    simp only [spec_l1Words.l0]
    rw [if_neg (by omega)]; rfl
  · unfold wordsB
    rw [Bool.and_eq_true, List.all_eq_true]
    constructor
    · rintro ⟨h1, h2⟩; exact ⟨fun j hj => of_decide_eq_true (h2 _ (rd_mem l j hj)), h1⟩
    · rintro ⟨h1, h2⟩; refine ⟨h2, fun x hx => ?_⟩
      obtain ⟨j, hj, rfl⟩ := List.getElem_of_mem hx
      have := h1 j hj; rw [rd_nat l j hj] at this; exact decide_eq_true this
theorem wordsOk_eq (l : List Int) (n : Int) (hl : l.length ≤ 2097152) (k : Nat) (hk : l.length < k) : impl_wordsOk.f k l n = some (wordsB l n) := by
  unfold impl_wordsOk.f
  by_cases h : (l.length : Int) = n
  · rw [if_pos h]
    unfold slices_ContainsFunc_at_impl_wordsOk_1.f slices_IndexFunc_at_impl_wordsOk_1.f
    have hf : ∀ x, impl_wordsOk_1.f x = some (!decide (0 ≤ x ∧ x ≤ 65535)) := fun x => by unfold impl_wordsOk_1.f; rw [isWord_eq]; rfl
    have hs : ∀ k i, i < l.length → ¬ ¬ (0 ≤ rd l (i : Int) ∧ rd l (i : Int) ≤ 65535) → slices_IndexFunc_at_impl_wordsOk_1.l0 (k + 1) l (l.length : Int) (i : Int) = slices_IndexFunc_at_impl_wordsOk_1.l0 k l (l.length : Int) ((i + 1 : Nat) : Int) := by
      intro k i hi hp
      simp only [slices_IndexFunc_at_impl_wordsOk_1.l0]
      rw [if_pos (by omega), if_pos (by omega), if_pos (by omega), hf, decide_eq_true (Classical.not_not.1 hp), Option.bind_some, if_neg (by simp), wrap_succ (by omega)]
    have hb : ∀ k i, i < l.length → ¬ (0 ≤ rd l (i : Int) ∧ rd l (i : Int) ≤ 65535) → slices_IndexFunc_at_impl_wordsOk_1.l0 (k + 1) l (l.length : Int) (i : Int) = some (i : Int) := by
      intro k i hi hp
      simp only [slices_IndexFunc_at_impl_wordsOk_1.l0]
      rw [if_pos (by omega), if_pos (by omega), if_pos (by omega), hf, decide_eq_false hp, Option.bind_some, if_pos (by simp)]
    have he : ∀ k, slices_IndexFunc_at_impl_wordsOk_1.l0 (k + 1) l (l.length : Int) (l.length : Int) = some (-1) := by
      intro k
      simp only [slices_IndexFunc_at_impl_wordsOk_1.l0]
      rw [if_neg (by omega)]
    rcases for_find l.length (fun k i => slices_IndexFunc_at_impl_wordsOk_1.l0 k l (l.length : Int) (i : Int)) (fun j => ¬ (0 ≤ rd l (j : Int) ∧ rd l (j : Int) ≤ 65535)) (fun j => (j : Int)) (-1) hs hb he k 0 (Nat.zero_le _) (by omega) with ⟨j, _, h2, h3, _, h5⟩ | ⟨h1, h2⟩
    · have h5' : slices_IndexFunc_at_impl_wordsOk_1.l0 k l (l.length : Int) 0 = some (j : Int) := h5
      rw [h5']
      simp only [Option.bind_some]; congr 1; symm
      rw [decide_eq_true (by omega : (j : Int) ≥ 0), Bool.not_true, wordsB, Bool.and_eq_false_iff]; right
      rw [Bool.eq_false_iff]; intro hh
      exact h3 (of_decide_eq_true (List.all_eq_true.1 hh _ (rd_mem l j h2)))
    · have h2' : slices_IndexFunc_at_impl_wordsOk_1.l0 k l (l.length : Int) 0 = some (-1) := h2
      rw [h2']
      simp only [Option.bind_some]; congr 1; symm
      rw [decide_eq_false (by omega : ¬ (-1 : Int) ≥ 0), Bool.not_false, wordsB, decide_eq_true h, Bool.true_and, List.all_eq_true]
      intro x hx
      obtain ⟨j, hj, rfl⟩ := List.getElem_of_mem hx
      have := Classical.not_not.1 (h1 j (Nat.zero_le _) hj); rw [rd_nat l j hj] at this; exact decide_eq_true this
  · rw [if_neg h, wordsB, decide_eq_false h, Bool.false_and]
theorem memOk_eq (l : List Int) (hl : l.length ≤ 2097152) (k : Nat) (hk : l.length < k) : impl_memOk.f k l = some (wordsB l 24) := by
  unfold impl_memOk.f; rw [wordsOk_eq l 24 hl k hk]; rfl
/-- Each word as two bytes. -/
def twoB (l : List Int) : List Int := l.flatMap fun x => [x / 256 % 256, x % 256]
theorem twoB_length (l : List Int) : (twoB l).length = 2 * l.length := by
  induction l with
  | nil => rfl
  | cons x l ih => simp [twoB] at ih ⊢; omega
theorem twoB_snoc (l : List Int) (x : Int) : twoB (l ++ [x]) = twoB l ++ [x / 256 % 256, x % 256] := by simp [twoB]
theorem twoBytes_eq (l : List Int) (hl : l.length ≤ 2097152) (k : Nat) (hk : l.length < k) : impl_twoBytes.f k l = some (twoB l) := by
  unfold impl_twoBytes.f
  have h := for_st l.length (fun k i (s : List Int) => impl_twoBytes.l0 k s l (l.length : Int) (i : Int)) (fun i => twoB (l.take i)) (twoB l) ?_ ?_ k 0 (Nat.zero_le _) (by omega)
  · simpa [twoB] using h
  · intro k i hi
    simp only [impl_twoBytes.l0]
    rw [if_pos (by omega), if_pos (by omega), if_pos (by omega), Option.bind_some, if_pos (by rw [twoB_length, List.length_take]; simp; omega), wrap_succ (by omega), rd_nat l i hi, ← twoB_snoc, snoc_step l i hi]
  · intro k
    simp only [impl_twoBytes.l0]
    rw [if_neg (by omega)]; simp
def memB (l : List Int) : List Int := if wordsB l 24 = true then twoB l else []
theorem implMemBytes_eq (l : List Int) (hl : l.length ≤ 2097152) (k : Nat) (hk : l.length < k) : impl_MemBytes.f k l = some (memB l) := by
  unfold impl_MemBytes.f memB
  rw [memOk_eq l hl k hk, Option.bind_some]
  by_cases hw : wordsB l 24 = true
  · rw [if_pos hw, if_pos hw, twoBytes_eq l hl k hk]; rfl
  · rw [if_neg hw, if_neg hw]
theorem memB_length (l : List Int) : (memB l).length ≤ 48 := by
  unfold memB
  by_cases hw : wordsB l 24 = true
  · rw [if_pos hw, twoB_length]
    unfold wordsB at hw; rw [Bool.and_eq_true] at hw; have := of_decide_eq_true hw.1; omega
  · rw [if_neg hw]; simp
theorem implHartOk_eq (regs : List Int) (pc st : Int) (hl : regs.length ≤ 2097152) (k : Nat) (hk : regs.length < k) : impl_HartOk.f k regs pc st = some (hartB regs pc st) := by
  unfold impl_HartOk.f hartB
  simp only [wordsOk_eq regs 4 hl k hk, isCell_eq, from_eq, Option.bind_some, ite_some']
theorem specHartOk_eq (regs : List Int) (pc st : Int) (hl : regs.length ≤ 2097152) (k : Nat) (hk : regs.length < k) : spec_HartOk.f k regs pc st = some (hartB regs pc st) := by
  unfold spec_HartOk.f hartB
  simp only [l1Words_eq regs 4 hl k hk, l1In_eq, Option.bind_some, ite_some']
/-- The hart of which these are the bytes, if there is one. -/
def hartOfV (l : List Int) : List Int × Int × Int × Bool := if l.length = 10 ∧ hartB (wordsOf (l.take 8)) (wrap64 (rd l 8)) (wrap64 (rd l 9)) = true then (wordsOf (l.take 8), wrap64 (rd l 8), wrap64 (rd l 9), true) else ([], 0, 0, false)
theorem hartOfV_length (l : List Int) : (hartOfV l).1.length ≤ 4 := by
  unfold hartOfV
  by_cases h : l.length = 10 ∧ hartB (wordsOf (l.take 8)) (wrap64 (rd l 8)) (wrap64 (rd l 9)) = true
  · rw [if_pos h]; show (wordsOf (l.take 8)).length ≤ 4; rw [wordsOf_length, List.length_take]; omega
  · rw [if_neg h]; simp
theorem implHartOf_eq (l : List Int) (hl : l.length ≤ 2097152) (k : Nat) (hk : l.length + 20 < k) : impl_HartOf.f k l = some (hartOfV l) := by
  unfold impl_HartOf.f hartOfV
  by_cases h : l.length = 10
  · have ht : (l.take 8).length = 8 := by rw [List.length_take]; omega
    rw [if_pos (by omega), if_pos (by omega), wordsIn_eq (l.take 8) (by omega) k (by omega), Option.bind_some, if_pos (by omega), if_pos (by omega), implHartOk_eq _ _ _ (by rw [wordsOf_length]; omega) k (by rw [wordsOf_length]; omega), Option.bind_some]
    by_cases hb : hartB (wordsOf (l.take 8)) (wrap64 (rd l 8)) (wrap64 (rd l 9)) = true
    · rw [if_pos hb, if_pos ⟨h, hb⟩]
    · rw [if_neg hb, if_neg (fun hh => hb hh.2)]
  · rw [if_neg (by omega), if_neg (fun hh => h hh.1)]
theorem specHartOf_eq (l : List Int) (hl : l.length ≤ 2097152) (k : Nat) (hk : l.length + 20 < k) : spec_HartOf.f k l = some (hartOfV l) := by
  unfold spec_HartOf.f hartOfV
  by_cases h : l.length = 10
  · have ht : (l.take 8).length = 8 := by rw [List.length_take]; omega
    rw [if_pos (by omega), if_pos (by omega), l22Words_eq (l.take 8) (by omega) k (by omega), Option.bind_some, if_pos (by omega), if_pos (by omega), specHartOk_eq _ _ _ (by rw [wordsOf_length]; omega) k (by rw [wordsOf_length]; omega), Option.bind_some]
    by_cases hb : hartB (wordsOf (l.take 8)) (wrap64 (rd l 8)) (wrap64 (rd l 9)) = true
    · rw [if_pos hb, if_pos ⟨h, hb⟩]
    · rw [if_neg hb, if_neg (fun hh => hb hh.2)]
  · rw [if_neg (by omega), if_neg (fun hh => h hh.1)]
theorem eqHart_same (r : List Int) (p s : Int) (hl : r.length ≤ 1048576) (k : Nat) (hk : r.length < k) : laws_eqHart.f k r p s r p s = some true := by
  unfold laws_eqHart.f
  rw [eqIntS_eq r r hl k hk, decide_eq_true rfl, Option.bind_some, if_pos rfl, if_pos rfl, if_pos rfl]
/-- The bytes of a hart. -/
def hartBytesV (r : List Int) (p s : Int) : List Int := if hartB r p s = true then twoB r ++ [p % 256, s % 256] else []
theorem hartBytesV_length (r : List Int) (p s : Int) : (hartBytesV r p s).length ≤ 10 := by
  unfold hartBytesV
  by_cases h : hartB r p s = true
  · rw [if_pos h, List.length_append, twoB_length, hartB_len h]; exact Nat.le_refl 10
  · rw [if_neg h]; simp
theorem implHartBytes_eq (r : List Int) (p s : Int) (hl : r.length ≤ 1048576) (k : Nat) (hk : 1048600 < k) : impl_HartBytes.f k r p s = some (hartBytesV r p s) := by
  unfold impl_HartBytes.f hartBytesV
  rw [implHartOk_eq r p s (by omega) k (by omega), Option.bind_some]
  by_cases h : hartB r p s = true
  · rw [if_pos h, if_pos h, twoBytes_eq r (by omega) k (by omega), Option.bind_some, Option.bind_some, if_pos (by rw [twoB_length, hartB_len h]; show 2 * 4 + 2 < _; omega)]
  · rw [if_neg h, if_neg h]
theorem rdHart (l : List S90) (i : Nat) (h : i < l.length) : rd_T90 l (i : Int) = l[i] := by
  unfold rd_T90; simp [List.getD, h]
theorem eqHartS_same (l : List S90) (hl : l.length ≤ 1048576) (hx : ∀ x ∈ l, x.f0.length ≤ 1048576) (k : Nat) (hk : 2200000 < k) : laws_eqHartS.f k l l = some true := by
  unfold laws_eqHartS.f
  rw [if_pos rfl]
  have h := for_st l.length (fun k' i (_ : Unit) => laws_eqHartS.l0 (k' + 1048580) l l (i : Int)) (fun _ => ()) true ?_ ?_ (k - 1048580) 0 (Nat.zero_le _) (by omega)
  · rw [show k - 1048580 + 1048580 = k by omega] at h; exact h
  · intro k' i hi
    have hx' := hx _ (List.getElem_mem hi)
    rw [show k' + 1 + 1048580 = (k' + 1048580) + 1 by omega, laws_eqHartS.l0]
    rw [if_pos (by omega), if_pos (by omega), if_pos (by omega), rdHart l i hi, eqHart_same _ _ _ hx' _ (by omega), Option.bind_some, if_pos rfl, wrap_succ (by omega)]
  · intro k'
    rw [show k' + 1 + 1048580 = (k' + 1048580) + 1 by omega, laws_eqHartS.l0]
    rw [if_neg (by omega)]
/-- Harts, marked from s on; the next mark. -/
def marksH : List S90 → Int → List S90 × Int
  | [], s => ([], s)
  | h :: t, s => (⟨iota s h.f0.length, s + h.f0.length, s + h.f0.length + 1⟩ :: (marksH t (s + h.f0.length + 2)).1, (marksH t (s + h.f0.length + 2)).2)
theorem marksH_le : ∀ (l : List S90) (s : Int), s ≤ (marksH l s).2
  | [], s => Int.le_refl _
  | h :: t, s => by have := marksH_le t (s + h.f0.length + 2); simp only [marksH]; omega
theorem marksH_len : ∀ (l : List S90) (s : Int), (marksH l s).1.length = l.length
  | [], s => rfl
  | h :: t, s => by simp only [marksH, List.length_cons, marksH_len t]
theorem marksH_bd (M : Nat) : ∀ (l : List S90) (s : Int), (∀ h ∈ l, h.f0.length ≤ M) → (marksH l s).2 ≤ s + (l.length : Int) * ((M : Int) + 2)
  | [], s, _ => by simp [marksH]
  | h :: t, s, hx => by
    have h1 := marksH_bd M t (s + h.f0.length + 2) (fun y hy => hx y (List.mem_cons_of_mem _ hy))
    have h2 := hx h (List.mem_cons_self ..)
    simp only [marksH, List.length_cons]
    have e : ((t.length + 1 : Nat) : Int) * ((M : Int) + 2) = (t.length : Int) * ((M : Int) + 2) + ((M : Int) + 2) := by rw [Int.natCast_add, Int.add_mul]; omega
    rw [e]; omega
theorem markHartS_l : ∀ (t p : List S90) (s : Int) (k : Nat), 0 ≤ s → (marksH t s).2 ≤ 4294967296 → (∀ h ∈ t, h.f0.length ≤ 2097152) → p.length + t.length ≤ 2097152 → t.length + 2097160 < k →
    laws_markHartS.l0 k (p ++ t) s (p.length : Int) = some ((marksH t s).2, p ++ (marksH t s).1)
  | [], p, s, k, h0, hb, hx, hl, hk => by
    obtain ⟨k, rfl⟩ : ∃ m, k = m + 1 := ⟨k - 1, by omega⟩
    rw [laws_markHartS.l0, if_neg (by simp)]; rfl
  | h :: t, p, s, k, h0, hb, hx, hl, hk => by
    obtain ⟨k, rfl⟩ : ∃ m, k = m + 1 := ⟨k - 1, by omega⟩
    simp only [List.length_cons] at hl hk
    have hh := hx h (List.mem_cons_self ..)
    have hm := marksH_le t (s + h.f0.length + 2)
    simp only [marksH] at hb
    have e1 : rd_T90 (p ++ h :: t) (p.length : Int) = h := by rw [rdHart _ _ (by simp)]; simp
    rw [laws_markHartS.l0, if_pos (by simp; omega), if_pos (by omega), e1, markIntS_eq h.f0 s h0 (by omega) (by omega) k (by omega), Option.bind_some]
    dsimp only
    rw [wrap_small (x := s + (h.f0.length : Int) + 1) (by omega) (by omega), wrap_small (x := s + (h.f0.length : Int) + 1 + 1) (by omega) (by omega), wrap_succ (by omega), Int.toNat_natCast, List.set_append_right _ _ (Nat.le_refl _), Nat.sub_self, List.set_cons_zero]
    have := markHartS_l t (p ++ [⟨iota s h.f0.length, s + h.f0.length, s + h.f0.length + 1⟩]) (s + h.f0.length + 2) k (by omega) hb (fun y hy => hx y (List.mem_cons_of_mem _ hy)) (by simp; omega) (by omega)
    simp only [List.append_assoc, List.singleton_append, List.length_append, List.length_singleton] at this
    rw [show s + (h.f0.length : Int) + 1 + 1 = s + h.f0.length + 2 by omega, this]; rfl
theorem markHartS_eq (t : List S90) (s : Int) (h0 : 0 ≤ s) (hb : (marksH t s).2 ≤ 4294967296) (hx : ∀ h ∈ t, h.f0.length ≤ 2097152) (hl : t.length ≤ 2097152) (k : Nat) (hk : 4200000 < k) : laws_markHartS.f k t s = some ((marksH t s).2, (marksH t s).1) := by
  unfold laws_markHartS.f
  have := markHartS_l t [] s k h0 hb hx (by simp; omega) (by omega)
  simpa using this
theorem heldHartS_l : ∀ (t p : List S90) (s : Int) (k : Nat), 0 ≤ s → (marksH t s).2 ≤ 4294967296 → (∀ h ∈ t, h.f0.length ≤ 2097152) → p.length + t.length ≤ 2097152 → t.length + 2097160 < k →
    laws_heldHartS.l0 k (p ++ (marksH t s).1) s (p.length : Int) = some (marksH t s).2
  | [], p, s, k, h0, hb, hx, hl, hk => by
    obtain ⟨k, rfl⟩ : ∃ m, k = m + 1 := ⟨k - 1, by omega⟩
    rw [laws_heldHartS.l0, if_neg (by simp [marksH])]; rfl
  | h :: t, p, s, k, h0, hb, hx, hl, hk => by
    obtain ⟨k, rfl⟩ : ∃ m, k = m + 1 := ⟨k - 1, by omega⟩
    simp only [List.length_cons] at hl hk
    have hh := hx h (List.mem_cons_self ..)
    have hm := marksH_le t (s + h.f0.length + 2)
    simp only [marksH] at hb ⊢
    have e1 : ∀ (a : S90) (q : List S90), rd_T90 (p ++ a :: q) (p.length : Int) = a := fun a q => by rw [rdHart _ _ (by simp)]; simp
    rw [laws_heldHartS.l0, if_pos (by simp; omega), if_pos (by omega), e1]
    dsimp only
    rw [heldIntS_eq s h.f0.length h0 (by omega) (by omega) k (by omega), Option.bind_some, if_neg (by omega), if_pos rfl, wrap_small (x := s + (h.f0.length : Int) + 1) (by omega) (by omega), if_pos rfl, wrap_small (x := s + (h.f0.length : Int) + 1 + 1) (by omega) (by omega), wrap_succ (by omega)]
    have := heldHartS_l t (p ++ [⟨iota s h.f0.length, s + h.f0.length, s + h.f0.length + 1⟩]) (s + h.f0.length + 2) k (by omega) hb (fun y hy => hx y (List.mem_cons_of_mem _ hy)) (by simp; omega) (by omega)
    simp only [List.append_assoc, List.singleton_append, List.length_append, List.length_singleton] at this
    rw [show s + (h.f0.length : Int) + 1 + 1 = s + h.f0.length + 2 by omega, this]
theorem heldHartS_eq (t : List S90) (s : Int) (h0 : 0 ≤ s) (hb : (marksH t s).2 ≤ 4294967296) (hx : ∀ h ∈ t, h.f0.length ≤ 2097152) (hl : t.length ≤ 2097152) (k : Nat) (hk : 4200000 < k) : laws_heldHartS.f k (marksH t s).1 s = some (marksH t s).2 := by
  unfold laws_heldHartS.f
  have := heldHartS_l t [] s k h0 hb hx (by simp; omega) (by omega)
  simpa using this
theorem rdHrt (l : List S90) (i : Nat) (h : i < l.length) : rd_T90 l (i : Int) = l[i] := by
  unfold rd_T90; simp [List.getD, h]
def hOk (h : S90) : Bool := hartB h.f0 h.f1 h.f2
def hBy (h : S90) : List Int := twoB h.f0 ++ [h.f1 % 256, h.f2 % 256]
theorem hBy_length (h : S90) (c : hOk h = true) : (hBy h).length = 10 := by unfold hBy; rw [List.length_append, twoB_length, hartB_len c]; rfl
/-- The bytes of a save. -/
def saveB (m : List Int) (hs : List S90) : List Int := if wordsB m 24 = true ∧ hs.length ≤ 8 ∧ hs.all hOk = true then ((hs.length : Int) % 256) :: (twoB m ++ hs.flatMap hBy) else []
theorem implSaveB_l (hs : List S90) (hx : ∀ h ∈ hs, h.f0.length ≤ 1048576) (hn : hs.length ≤ 8) : ∀ (d i : Nat) (acc : List Int) (k : Nat), i + d = hs.length → acc.length ≤ 100 + 10 * i → 2097160 + d < k →
    impl_SaveBytes.l0 k acc hs (hs.length : Int) (i : Int) = some (if (hs.drop i).all hOk = true then acc ++ (hs.drop i).flatMap hBy else [])
  | 0, i, acc, k, hi, ha, hk => by
    obtain ⟨k, rfl⟩ : ∃ m, k = m + 1 := ⟨k - 1, by omega⟩
    rw [impl_SaveBytes.l0, if_neg (by omega), List.drop_of_length_le (by omega)]; simp
  | d + 1, i, acc, k, hi, ha, hk => by
    obtain ⟨k, rfl⟩ : ∃ m, k = m + 1 := ⟨k - 1, by omega⟩
    have hd : hs.drop i = hs[i] :: hs.drop (i + 1) := List.drop_eq_getElem_cons (by omega)
    have hl := hx _ (List.getElem_mem (by omega : i < hs.length))
    rw [impl_SaveBytes.l0, if_pos (by omega), if_pos (by omega), if_pos (by omega), rdHrt hs i (by omega), implHartOk_eq _ _ _ (by omega) k (by omega), Option.bind_some, hd, List.all_cons, List.flatMap_cons]
    by_cases c : hOk hs[i] = true
    · have c' : hartB hs[i].f0 hs[i].f1 hs[i].f2 = true := c
      have e : hartBytesV hs[i].f0 hs[i].f1 hs[i].f2 = hBy hs[i] := by unfold hartBytesV; rw [if_pos c']; rfl
      have hb := hBy_length _ c
      rw [if_pos c', implHartBytes_eq _ _ _ hl k (by omega), Option.bind_some, e, if_pos (by omega), wrap_succ (by omega), implSaveB_l hs hx hn d (i + 1) _ k (by omega) (by rw [List.length_append, hb]; omega) (by omega), c, Bool.true_and, List.append_assoc]
    · have c' : ¬ hartB hs[i].f0 hs[i].f1 hs[i].f2 = true := c
      have c2 : hOk hs[i] = false := by simpa using c
      rw [if_neg c', c2, Bool.false_and]; rfl
theorem implSaveBytes_eq (m : List Int) (hs : List S90) (hm : m.length ≤ 1048576) (hx : ∀ h ∈ hs, h.f0.length ≤ 1048576) (hl : hs.length ≤ 1048576) (k : Nat) (hk : 2200000 < k) : impl_SaveBytes.f k m hs = some (saveB m hs) := by
  obtain ⟨k, rfl⟩ : ∃ m, k = m + 1 := ⟨k - 1, by omega⟩
  unfold impl_SaveBytes.f saveB
  rw [memOk_eq m (by omega) _ (by omega), Option.bind_some]
  by_cases hw : wordsB m 24 = true
  · rw [if_pos hw]
    by_cases hn : hs.length ≤ 8
    · rw [decide_eq_false (by omega), impl_SaveBytes.j0, if_neg (by simp), Option.bind_some, implMemBytes_eq m (by omega) k (by omega), Option.bind_some]
      have e : memB m = twoB m := by unfold memB; rw [if_pos hw]
      have l24 := wordsB_24 hw
      rw [e, if_pos (by rw [twoB_length, l24]; show 1 + 2 * 24 < _; omega)]
      have h := implSaveB_l hs hx hn hs.length 0 ([(hs.length : Int) % 256] ++ twoB m) k (by omega) (by rw [List.length_append, twoB_length, l24]; show 1 + 2 * 24 ≤ _; omega) (by omega)
      simp only [List.drop_zero] at h
      have h' : impl_SaveBytes.l0 k ([(hs.length : Int) % 256] ++ twoB m) hs (hs.length : Int) 0 = _ := h
      rw [h']
      by_cases c : hs.all hOk = true
      · rw [if_pos c, if_pos ⟨hw, hn, c⟩]; simp
      · rw [if_neg c, if_neg (fun hh => c hh.2.2)]
    · rw [decide_eq_true (by omega), impl_SaveBytes.j0, if_pos rfl, if_neg (fun hh => hn hh.2.1)]
  · rw [if_neg hw, impl_SaveBytes.j0, if_pos rfl, if_neg (fun hh => hw hh.1)]
theorem rd_get (l : List Int) (i : Nat) (h : i < l.length) : rd l (i : Int) = l[i] := rd_nat l i h
/-- Two bytes, told as a word. -/
theorem wordAt_eq (l : List Int) (hb : ∀ x ∈ l, 0 ≤ x ∧ x < 256) (i : Nat) (h : 2 * i + 1 < l.length) : wordAt l i = l[2 * i] * 256 + l[2 * i + 1] := by
  unfold wordAt
  have h1 := hb _ (List.getElem_mem (by omega : 2 * i < l.length))
  have h2 := hb _ (List.getElem_mem h)
  rw [rd_nat l (2 * i) (by omega), rd_nat l (2 * i + 1) h, wrap_small (x := l[2 * i]) (by omega) (by omega), wrap_small (x := l[2 * i + 1]) (by omega) (by omega), wrap_small (by omega) (by omega)]
  exact bits_join .i64 62 (by decide) wraps_i64 8 _ _ (by omega) (by omega) (by omega) (by omega) (by omega) (by omega)
theorem twoB_words (l : List Int) (hb : ∀ x ∈ l, 0 ≤ x ∧ x < 256) (n : Nat) (hn : l.length = 2 * n) : twoB (wordsOf l) = l := by
  have go : ∀ i, i ≤ n → twoB ((List.range i).map (wordAt l)) = l.take (2 * i) := by
    intro i
    induction i with
    | zero => intro _; simp [twoB]
    | succ i ih =>
      intro hi
      have h1 := hb _ (List.getElem_mem (by omega : 2 * i < l.length))
      have h2 := hb _ (List.getElem_mem (by omega : 2 * i + 1 < l.length))
      rw [List.range_succ, List.map_append, List.map_singleton, twoB_snoc, ih (by omega), wordAt_eq l hb i (by omega), show 2 * (i + 1) = 2 * i + 1 + 1 by omega, List.take_succ_eq_append_getElem (by omega : 2 * i + 1 < l.length), List.take_succ_eq_append_getElem (by omega : 2 * i < l.length), List.append_assoc]
      congr 1
      have e1 : (l[2 * i] * 256 + l[2 * i + 1]) / 256 % 256 = l[2 * i] := by omega
      have e2 : (l[2 * i] * 256 + l[2 * i + 1]) % 256 = l[2 * i + 1] := by omega
      rw [e1, e2]; rfl
  have h := go n (Nat.le_refl _)
  unfold wordsOf
  rw [show l.length / 2 = n by omega, h, ← hn, List.take_length]
theorem wordsB_words (l : List Int) (hb : ∀ x ∈ l, 0 ≤ x ∧ x < 256) (n : Nat) (hn : l.length = 2 * n) : wordsB (wordsOf l) (n : Int) = true := by
  unfold wordsB
  rw [Bool.and_eq_true, List.all_eq_true, wordsOf_length]
  refine ⟨decide_eq_true (by omega), fun x hx => ?_⟩
  unfold wordsOf at hx
  obtain ⟨i, hi, rfl⟩ := List.mem_map.1 hx
  rw [List.mem_range] at hi
  have h1 := hb _ (List.getElem_mem (by omega : 2 * i < l.length))
  have h2 := hb _ (List.getElem_mem (by omega : 2 * i + 1 < l.length))
  rw [wordAt_eq l hb i (by omega)]
  exact decide_eq_true (by omega)
/-- The hart that ten bytes tell. -/
def hv (c : List Int) : S90 := ⟨(hartOfV c).1, (hartOfV c).2.1, (hartOfV c).2.2.1⟩
theorem hv_ok (c : List Int) : hOk (hv c) = (hartOfV c).2.2.2 := by
  unfold hv hOk hartOfV
  split
  · rename_i h; exact h.2
  · rfl
theorem hv_by (c : List Int) (hb : ∀ x ∈ c, 0 ≤ x ∧ x < 256) (h : (hartOfV c).2.2.2 = true) : hBy (hv c) = c := by
  unfold hartOfV at h
  split at h
  · rename_i q
    have e : hv c = ⟨wordsOf (c.take 8), wrap64 (rd c 8), wrap64 (rd c 9)⟩ := by unfold hv hartOfV; rw [if_pos q]
    have l10 := q.1
    have h8 := hb _ (List.getElem_mem (by omega : 8 < c.length))
    have h9 := hb _ (List.getElem_mem (by omega : 9 < c.length))
    have r8 : rd c 8 = c[8] := rd_nat c 8 (by omega)
    have r9 : rd c 9 = c[9] := rd_nat c 9 (by omega)
    rw [e]; unfold hBy
    try dsimp only
    rw [twoB_words (c.take 8) (fun x hx => hb x (List.mem_of_mem_take hx)) 4 (by rw [List.length_take]; omega), r8, r9, wrap_small (x := c[8]) (by omega) (by omega), wrap_small (x := c[9]) (by omega) (by omega), Int.emod_eq_of_lt h8.1 h8.2, Int.emod_eq_of_lt h9.1 h9.2]
    have t1 := List.take_succ_eq_append_getElem (by omega : 8 < c.length)
    have t2 := List.take_succ_eq_append_getElem (by omega : 9 < c.length)
    have t3 : c.take (9 + 1) = c := List.take_of_length_le (by omega)
    exact ((by rw [t2, show List.take 9 c = _ from t1, List.append_assoc]; rfl) : List.take 8 c ++ [c[8], c[9]] = List.take (9 + 1) c).trans t3
  · simp at h
def chunk (l : List Int) (j : Nat) : List Int := (l.take (49 + 10 * j + 10)).drop (49 + 10 * j)
def HS (l : List Int) (i : Nat) : List S90 := (List.range i).map fun j => hv (chunk l j)
theorem HS_succ (l : List Int) (i : Nat) : HS l (i + 1) = HS l i ++ [hv (chunk l i)] := by unfold HS; rw [List.range_succ, List.map_append]; rfl
theorem HS_len (l : List Int) (i : Nat) : (HS l i).length = i := by simp [HS]
theorem HS_regs (l : List Int) (i : Nat) : ∀ h ∈ HS l i, h.f0.length ≤ 4 := by
  intro h hh
  obtain ⟨j, _, rfl⟩ := List.mem_map.1 hh
  exact hartOfV_length _
theorem chunk_b (l : List Int) (hb : ∀ x ∈ l, 0 ≤ x ∧ x < 256) (j : Nat) : ∀ x ∈ chunk l j, 0 ≤ x ∧ x < 256 := fun x hx => hb x (List.mem_of_mem_take (List.mem_of_mem_drop hx))
theorem HS_by (l : List Int) (hb : ∀ x ∈ l, 0 ≤ x ∧ x < 256) : ∀ (i : Nat), (∀ j, j < i → (hartOfV (chunk l j)).2.2.2 = true) → (HS l i).flatMap hBy = (l.take (49 + 10 * i)).drop 49
  | 0, _ => by simp [HS, List.drop_eq_nil_of_le]
  | i + 1, h => by
    rw [HS_succ, List.flatMap_append, HS_by l hb i (fun j hj => h j (by omega))]
    have e : [hv (chunk l i)].flatMap hBy = chunk l i := by simp [hv_by _ (chunk_b l hb i) (h i (by omega))]
    rw [e]
    unfold chunk
    rw [show 49 + 10 * (i + 1) = 49 + 10 * i + 10 by omega]
    have e2 : l.take (49 + 10 * i) = (l.take (49 + 10 * i + 10)).take (49 + 10 * i) := by rw [List.take_take, Nat.min_eq_left (by omega)]
    generalize l.take (49 + 10 * i + 10) = q at e2 ⊢
    rw [e2, show 49 + 10 * i = 49 + (10 * i) from rfl]
    rw [← List.take_append_drop (10 * i) (q.drop 49), List.drop_drop, List.drop_take, Nat.add_sub_cancel_left]
/-- What a save's bytes tell. -/
def saveGood (l : List Int) : Bool := decide (49 ≤ l.length) && (decide (rd l 0 ≤ 8) && (decide ((l.length : Int) = 49 + 10 * rd l 0) && (HS l ((l.length - 49) / 10)).all hOk))
def saveV (l : List Int) : List Int × List S90 × Bool := if saveGood l = true then (wordsOf ((l.take 49).drop 1), HS l ((l.length - 49) / 10), true) else ([], [], false)
theorem HS_all (l : List Int) (i : Nat) : (HS l i).all hOk = true ↔ ∀ j, j < i → (hartOfV (chunk l j)).2.2.2 = true := by
  unfold HS
  rw [List.all_eq_true]
  constructor
  · intro h j hj
    rw [← hv_ok]; exact h _ (List.mem_map.2 ⟨j, List.mem_range.2 hj, rfl⟩)
  · intro h x hx
    obtain ⟨j, hj, rfl⟩ := List.mem_map.1 hx
    rw [hv_ok]; exact h j (List.mem_range.1 hj)
theorem mem_b (l : List Int) (hb : ∀ x ∈ l, 0 ≤ x ∧ x < 256) (hl : 49 ≤ l.length) : wordsB (wordsOf ((l.take 49).drop 1)) 24 = true ∧ twoB (wordsOf ((l.take 49).drop 1)) = (l.take 49).drop 1 := by
  have h : ((l.take 49).drop 1).length = 2 * 24 := by rw [List.length_drop, List.length_take]; omega
  have hb' : ∀ x ∈ (l.take 49).drop 1, 0 ≤ x ∧ x < 256 := fun x hx => hb x (List.mem_of_mem_take (List.mem_of_mem_drop hx))
  exact ⟨wordsB_words _ hb' 24 h, twoB_words _ hb' 24 h⟩
/-- The bytes of what is told are the bytes, if they are right. -/
theorem save_iff (l : List Int) (hb : ∀ x ∈ l, 0 ≤ x ∧ x < 256) (hl : 49 ≤ l.length) : saveB (wordsOf ((l.take 49).drop 1)) (HS l ((l.length - 49) / 10)) = l ↔ saveGood l = true := by
  obtain ⟨w1, w2⟩ := mem_b l hb hl
  have r0 : rd l 0 = l[0] := rd_nat l 0 (by omega)
  have b0 := hb _ (List.getElem_mem (by omega : 0 < l.length))
  have l1 : l = l[0] :: ((l.take 49).drop 1 ++ l.drop 49) := by
    have h := List.take_append_drop 49 l
    have h2 : l.take 49 = l[0] :: (l.take 49).drop 1 := by
      have := List.drop_eq_getElem_cons (l := l.take 49) (i := 0) (by rw [List.length_take]; omega)
      simpa using this
    rw [← List.cons_append, ← h2, h]
  unfold saveGood saveB
  rw [HS_len, w2]
  by_cases c : (HS l ((l.length - 49) / 10)).all hOk = true
  · have hby := HS_by l hb _ ((HS_all l _).1 c)
    rw [hby, c, decide_eq_true hl, Bool.true_and, Bool.and_true]
    constructor
    · intro h
      by_cases d : (l.length - 49) / 10 ≤ 8
      · rw [if_pos ⟨w1, d, rfl⟩] at h
        have h0 := congrArg List.length h
        rw [List.length_cons, List.length_append, List.length_drop, List.length_take, List.length_drop, List.length_take] at h0
        have h1 : (((l.length - 49) / 10 : Nat) : Int) % 256 = rd l 0 := congrArg (fun q => rd q 0) h
        rw [decide_eq_true (by omega), decide_eq_true (by omega)]; rfl
      · rw [if_neg (fun q => d q.2.1)] at h
        rw [← h] at hl; simp at hl
    · intro h
      rw [Bool.and_eq_true] at h
      have h1 := of_decide_eq_true h.1
      have h2 := of_decide_eq_true h.2
      rw [if_pos ⟨w1, by omega, rfl⟩]
      have e : (((l.length - 49) / 10 : Nat) : Int) % (256 : Int) = (l[0] : Int) := by
        have h3 : rd l 0 = (((l.length - 49) / 10 : Nat) : Int) := by omega
        rw [← r0, h3]; omega
      rw [e, List.take_of_length_le (l := l) (i := 49 + 10 * ((l.length - 49) / 10)) (by omega)]
      exact l1.symm
  · rw [if_neg (fun q => c q.2.2)]
    constructor
    · intro h; rw [← h] at hl; simp at hl
    · intro h
      rw [Bool.and_eq_true, Bool.and_eq_true, Bool.and_eq_true] at h
      exact absurd h.2.2.2 c
theorem bytes_same (a b : List Int) (ha : ∀ x ∈ a, 0 ≤ x ∧ x < 256) (hb : ∀ x ∈ b, 0 ≤ x ∧ x < 256) : bytes_Equal.f a b = some (decide (a = b)) := by
  unfold bytes_Equal.f
  rw [Go.Lib.strOfNums_toList, Go.Lib.strOfNums_toList]
  by_cases h : a = b
  · rw [h, decide_eq_true rfl]; simp
  · rw [decide_eq_false h]
    congr 1
    rw [beq_eq_false_iff_ne]
    intro q
    apply h
    have e : ∀ (l : List Int), (∀ x ∈ l, 0 ≤ x ∧ x < 256) → (Go.Lib.bytesOf l).map (fun u => (u.toNat : Int)) = l := by
      intro l hl
      unfold Go.Lib.bytesOf
      rw [List.map_map]
      conv => rhs; rw [← List.map_id l]
      refine List.map_congr_left (fun x hx => ?_)
      have := hl x hx
      show ((UInt8.ofNat x.toNat).toNat : Int) = x
      rw [UInt8.toNat_ofNat']; omega
    rw [← e a ha, ← e b hb, q]
theorem hBy_b (h : S90) : ∀ x ∈ hBy h, 0 ≤ x ∧ x < 256 := by
  intro x hx
  unfold hBy twoB at hx
  rw [List.mem_append, List.mem_flatMap] at hx
  rcases hx with ⟨y, _, hy⟩ | hy
  · simp only [List.mem_cons, List.not_mem_nil, or_false] at hy; omega
  · simp only [List.mem_cons, List.not_mem_nil, or_false] at hy; omega
theorem saveB_b (m : List Int) (hs : List S90) : ∀ x ∈ saveB m hs, 0 ≤ x ∧ x < 256 := by
  intro x hx
  unfold saveB at hx
  split at hx
  · rw [List.mem_cons, List.mem_append] at hx
    rcases hx with h | h | h
    · omega
    · unfold twoB at h
      obtain ⟨y, _, hy⟩ := List.mem_flatMap.1 h
      simp only [List.mem_cons, List.not_mem_nil, or_false] at hy; omega
    · obtain ⟨y, _, hy⟩ := List.mem_flatMap.1 h
      exact hBy_b y x hy
  · simp at hx
theorem implSaveOf_eq (l : List Int) (hb : ∀ x ∈ l, 0 ≤ x ∧ x < 256) (hl : l.length ≤ 1048576) (k : Nat) (hk : 4200000 < k) : impl_SaveOf.f k l = some (saveV l) := by
  unfold impl_SaveOf.f
  by_cases c : (l.length : Int) < 49
  · rw [if_pos c]; unfold saveV saveGood; rw [decide_eq_false (by omega), Bool.false_and]; rfl
  have hl' : 49 ≤ l.length := by omega
  have em : impl_MemOf.f k ((l.take 49).drop 1) = some (wordsOf ((l.take 49).drop 1), true) := by
    have h : ((l.take 49).drop 1).length = 48 := by rw [List.length_drop, List.length_take]; omega
    unfold impl_MemOf.f
    rw [if_pos (by omega), wordsIn_eq _ (by omega) k (by omega)]; rfl
  rw [if_neg c, if_pos (by omega), em, Option.bind_some]
  obtain ⟨w1, w2⟩ := mem_b l hb hl'
  have h := for_stC 2200010 ((l.length - 49) / 10) (fun k' i (s : List S90) => impl_SaveOf.l0 k' l (wordsOf ((l.take 49).drop 1)) s ((49 + 10 * i : Nat) : Int)) (fun i => HS l i) (saveV l) ?_ ?_ k 0 (Nat.zero_le _) (by omega)
  · exact h
  · intro k' i hk' hi
    try dsimp only
    have e : wrap64 (((49 + 10 * i : Nat) : Int) + 10) = ((49 + 10 * i + 10 : Nat) : Int) := by rw [wrap_small (by omega) (by omega)]; omega
    rw [impl_SaveOf.l0, e, if_pos (by omega), if_pos (by omega), if_pos (by omega), Int.toNat_natCast, Int.toNat_natCast]
    have e2 : impl_HartOf.f k' ((l.take (49 + 10 * i + 10)).drop (49 + 10 * i)) = some (hartOfV (chunk l i)) := implHartOf_eq (chunk l i) (by unfold chunk; rw [List.length_drop, List.length_take]; omega) k' (by unfold chunk; rw [List.length_drop, List.length_take]; omega)
    rw [e2, Option.bind_some, if_pos (by rw [HS_len]; omega), HS_succ]
    show impl_SaveOf.l0 k' l _ (HS l i ++ [hv (chunk l i)]) ((49 + 10 * i + 10 : Nat) : Int) = _
    rw [show 49 + 10 * i + 10 = 49 + 10 * (i + 1) by omega]
  · intro k' hk'
    try dsimp only
    have e : wrap64 (((49 + 10 * ((l.length - 49) / 10) : Nat) : Int) + 10) = ((49 + 10 * ((l.length - 49) / 10) + 10 : Nat) : Int) := by rw [wrap_small (by omega) (by omega)]; omega
    rw [impl_SaveOf.l0, e, if_neg (by omega), implSaveBytes_eq _ _ (by rw [wordsB_24 w1]; omega) (fun x hx => by have := HS_regs l _ x hx; omega) (by rw [HS_len]; omega) k' (by omega), Option.bind_some, bytes_same _ _ (saveB_b _ _) hb, Option.bind_some]
    have hi := save_iff l hb hl'
    unfold saveV
    by_cases d : saveGood l = true
    · rw [decide_eq_true (hi.2 d), if_pos rfl, if_pos d]
    · rw [decide_eq_false (fun q => d (hi.1 q)), if_neg (by simp), if_neg d]
theorem specSaveOf_eq (l : List Int) (hb : ∀ x ∈ l, 0 ≤ x ∧ x < 256) (hl : l.length ≤ 1048576) (k : Nat) (hk : 4200000 < k) : spec_SaveOf.f k l = some (saveV l) := by
  obtain ⟨k, rfl⟩ : ∃ m, k = m + 1 := ⟨k - 1, by omega⟩
  unfold spec_SaveOf.f
  rw [Option.bind_some]
  by_cases c : (l.length : Int) < 49
  · rw [if_pos c, spec_SaveOf.j0, if_pos rfl]; unfold saveV saveGood; rw [decide_eq_false (by omega), Bool.false_and]; rfl
  have hl' : 49 ≤ l.length := by omega
  have r0 : rd l 0 = l[0] := rd_nat l 0 (by omega)
  have b0 := hb _ (List.getElem_mem (by omega : 0 < l.length))
  have no : saveGood l ≠ true → saveV l = ([], [], false) := fun h => by unfold saveV; rw [if_neg h]
  rw [if_neg c, if_pos (by omega), wrap_small (x := rd l 0) (by omega) (by omega)]
  by_cases c8 : rd l 0 > 8
  · rw [if_pos c8, spec_SaveOf.j0, if_pos rfl, no]
    unfold saveGood; rw [decide_eq_false (by omega : ¬ rd l 0 ≤ 8)]; simp
  rw [if_neg c8, wrap_small (x := 10 * rd l 0) (by omega) (by omega), wrap_small (by omega) (by omega)]
  by_cases cl : (l.length : Int) = 49 + 10 * rd l 0
  · rw [bne_eq_false_iff_eq.2 cl, spec_SaveOf.j0, if_neg (by simp)]
    have hn : l.length = 49 + 10 * ((l.length - 49) / 10) := by omega
    have go : ∀ (d i : Nat) (k' : Nat), i + d = (l.length - 49) / 10 → 2200010 + d < k' → (∀ j, j < i → (hartOfV (chunk l j)).2.2.2 = true) → spec_SaveOf.l0 k' l [] 49 (HS l i) ((49 + 10 * i : Nat) : Int) = some (saveV l) := by
      intro d
      induction d with
      | zero =>
        intro i k' hi hk' hok
        obtain ⟨k', rfl⟩ : ∃ m, k' = m + 1 := ⟨k' - 1, by omega⟩
        have hi' : i = (l.length - 49) / 10 := by omega
        have h48 : ((l.take 49).drop 1).length = 48 := by rw [List.length_drop, List.length_take]; omega
        rw [spec_SaveOf.l0, if_neg (by omega), if_pos (by omega), if_pos (by omega)]
        show (spec_l22Words.f k' ((l.take 49).drop 1)).bind _ = _
        rw [l22Words_eq _ (by omega) k' (by omega), Option.bind_some]
        have g : saveGood l = true := by
          unfold saveGood
          rw [decide_eq_true hl', decide_eq_true (by omega : rd l 0 ≤ 8), decide_eq_true cl, (HS_all l _).2 (by rw [← hi']; exact hok)]; rfl
        unfold saveV
        rw [if_pos g, hi']
      | succ d ih =>
        intro i k' hi hk' hok
        obtain ⟨k', rfl⟩ : ∃ m, k' = m + 1 := ⟨k' - 1, by omega⟩
        have e : wrap64 (((49 + 10 * i : Nat) : Int) + 10) = ((49 + 10 * i + 10 : Nat) : Int) := by rw [wrap_small (by omega) (by omega)]; omega
        rw [spec_SaveOf.l0, e, if_pos (by omega), if_pos (by omega), if_pos (by omega), if_pos (by omega), Int.toNat_natCast, Int.toNat_natCast]
        have e2 : spec_HartOf.f k' ((l.take (49 + 10 * i + 10)).drop (49 + 10 * i)) = some (hartOfV (chunk l i)) := specHartOf_eq (chunk l i) (by unfold chunk; rw [List.length_drop, List.length_take]; omega) k' (by unfold chunk; rw [List.length_drop, List.length_take]; omega)
        rw [e2, Option.bind_some]
        by_cases q : (hartOfV (chunk l i)).2.2.2 = true
        · rw [if_pos q, if_pos (by rw [HS_len]; omega)]
          have := ih (i + 1) k' (by omega) (by omega) (fun j hj => by
            by_cases e : j = i
            · subst e; exact q
            · exact hok j (by omega))
          rw [HS_succ, show 49 + 10 * (i + 1) = 49 + 10 * i + 10 by omega] at this
          exact this
        · rw [if_neg q, no]
          intro g
          unfold saveGood at g
          rw [Bool.and_eq_true, Bool.and_eq_true, Bool.and_eq_true] at g
          exact q ((HS_all l _).1 g.2.2.2 i (by omega))
    exact go ((l.length - 49) / 10) 0 k (by omega) (by omega) (fun j hj => by omega)
  · rw [bne_iff_ne.2 cl, spec_SaveOf.j0, if_pos rfl, no]
    unfold saveGood; rw [decide_eq_false cl]; simp
theorem saveV_len (l : List Int) : (saveV l).1.length ≤ 24 ∧ (saveV l).2.1.length ≤ 8 ∧ ∀ h ∈ (saveV l).2.1, h.f0.length ≤ 4 := by
  unfold saveV
  by_cases g : saveGood l = true
  · rw [if_pos g]
    unfold saveGood at g
    rw [Bool.and_eq_true, Bool.and_eq_true, Bool.and_eq_true] at g
    have g1 := of_decide_eq_true g.1
    have g2 := of_decide_eq_true g.2.1
    have g3 := of_decide_eq_true g.2.2.1
    refine ⟨?_, ?_, HS_regs l _⟩
    · dsimp only; rw [wordsOf_length, List.length_drop, List.length_take]; omega
    · dsimp only; rw [HS_len]; omega
  · rw [if_neg g]; exact ⟨by simp, by simp, by simp⟩
theorem FnExactSaveOf : laws_FnExactSaveOf.Pure := by
  rintro l ⟨_, hw⟩
  obtain ⟨K, hK⟩ : ∃ K : Nat, 5000000 ≤ K := ⟨_, Nat.le_refl _⟩
  refine ⟨K, ?_⟩
  have hb : ∀ x ∈ l, 0 ≤ x ∧ x < 256 := fun x hx => by
    have := hw x hx
    simp [Lit.wf, IntKind.min, IntKind.max, IntKind.bits, IntKind.signed] at this
    omega
  unfold laws_FnExactSaveOf.f
  by_cases hg : (l.length : Int) > 1048576
  · rw [if_pos hg]
  have hl : l.length ≤ 1048576 := by omega
  have e1 := toByteS_eq l hl K (by omega)
  have e2 := specSaveOf_eq l hb hl K (by omega)
  have e3 := implSaveOf_eq l hb hl K (by omega)
  obtain ⟨v1, v2, v3⟩ := saveV_len l
  generalize saveV l = V at e2 e3 v1 v2 v3
  obtain ⟨m, hs, b⟩ := V
  dsimp only at v1 v2 v3
  have e4 : laws_eqIntS.f K m m = some true := by rw [eqIntS_eq m m (by omega) K (by omega), decide_eq_true rfl]
  have e5 : laws_eqHartS.f K hs hs = some true := eqHartS_same hs (by omega) (fun x hx => by have := v3 x hx; omega) K (by omega)
  have e6 : laws_eqByteS.f K l l = some true := by rw [eqByteS_eq l l (by omega) K (by omega), decide_eq_true rfl]
  have e7 := markByteS_eq l 1 (by omega) (by omega) (by omega) K (by omega)
  have e8 := markIntS_eq m 1 (by omega) (by omega) (by omega) K (by omega)
  have hbd := marksH_bd 4 hs (1 + (m.length : Int)) v3
  have hge := marksH_le hs (1 + (m.length : Int))
  have hbd' : (marksH hs (1 + (m.length : Int))).2 ≤ 4294967296 := by omega
  have e9 := markHartS_eq hs (1 + (m.length : Int)) (by omega) hbd' (fun x hx => by have := v3 x hx; omega) (by omega) K (by omega)
  have e10 := heldIntS_eq 1 m.length (by omega) (by omega) (by omega) K (by omega)
  have e11 := heldHartS_eq hs (1 + (m.length : Int)) (by omega) hbd' (fun x hx => by have := v3 x hx; omega) (by omega) K (by omega)
  rw [if_neg hg, e1, Option.bind_some, e2, Option.bind_some, Option.bind_some, e3, Option.bind_some]
  try dsimp only
  rw [e4, Option.bind_some, if_pos rfl, e5, Option.bind_some, if_pos rfl, bne_self_eq_false, if_neg (by simp), Option.bind_some, e6, Option.bind_some, if_pos rfl, e7, Option.bind_some]
  try dsimp only
  rw [if_neg (by omega), Option.bind_some, if_pos rfl, Option.bind_some, if_pos rfl, e8, Option.bind_some]
  try dsimp only
  rw [e9, Option.bind_some]
  try dsimp only
  rw [e10, Option.bind_some, if_neg (by omega), e11, Option.bind_some, if_neg (by omega), if_pos rfl, Option.bind_some, Option.bind_some]
  try dsimp only
  rw [e3, Option.bind_some]
  try dsimp only
  rw [e4, Option.bind_some, if_pos rfl, e5, Option.bind_some, if_pos rfl, bne_self_eq_false, if_neg (by simp), if_neg (by omega), e11, Option.bind_some, if_neg (by omega), if_pos rfl]
end Go.Proofs.Ytbbieaglfgipnaa.Pure
