/- For all memories and cells, the program's NextOf returns what the reference's NextOf returns, keeps its argument, and its result is its own: no conditions. -/
import Derived.Test.YtnekcbajadnldaaPFnExactNextOfx6
import Derived.Lib.RowBridge
namespace Go.Proofs.Ytnekcbajadnldaa.Pure
open Go.RowKit Go.Proofs.Ytnekcbajadnldaa.PFnExactNextOf Go.Proofs.YtnekcbajadnldaaW.PrintWords Go.Proofs.YtnekcbajadnldaaW.PrintLast
set_option linter.unusedVariables false
set_option linter.unusedSimpArgs false

theorem wrap_small {x : Int} (h0 : -9223372036854775808 ≤ x) (h : x ≤ 9223372036854775807) : wrap64 x = x := by
  unfold wrap64; omega
theorem wrap_succ {i : Nat} (h : i < 4611686018427387904) : wrap64 ((i : Int) + 1) = ((i + 1 : Nat) : Int) := by
  unfold wrap64; omega
theorem rd_nat (l : List Int) (i : Nat) (h : i < l.length) : rd l (i : Int) = l[i] := by
  unfold rd; simp [List.getD, h]
theorem rd_mem (l : List Int) (i : Nat) (h : i < l.length) : rd l (i : Int) ∈ l := by
  rw [rd_nat l i h]; exact List.getElem_mem h
/-- A loop whose state is known ahead of each round. -/
theorem for_st {σ ρ : Type} (n : Nat) (L : Nat → Nat → σ → Option ρ) (st : Nat → σ) (r : ρ) (hs : ∀ k i, i < n → L (k + 1) i (st i) = L k (i + 1) (st (i + 1))) (he : ∀ k, L (k + 1) n (st n) = some r) :
    ∀ (k i : Nat), i ≤ n → n < i + k → L k i (st i) = some r
  | 0, i, hi, hk => by omega
  | k + 1, i, hi, hk => by
    by_cases h : i < n
    · rw [hs k i h]; exact for_st n L st r hs he k (i + 1) (by omega) (by omega)
    · have : i = n := by omega
      subst this; exact he k
/-- A loop that ends at the first place where p holds. -/
theorem for_find {ρ : Type} (n : Nat) (L : Nat → Nat → Option ρ) (p : Nat → Prop) (b : Nat → ρ) (r : ρ) (hs : ∀ k i, i < n → ¬ p i → L (k + 1) i = L k (i + 1)) (hb : ∀ k i, i < n → p i → L (k + 1) i = some (b i)) (he : ∀ k, L (k + 1) n = some r) :
    ∀ (k i : Nat), i ≤ n → n < i + k → (∃ j, i ≤ j ∧ j < n ∧ p j ∧ (∀ m, i ≤ m → m < j → ¬ p m) ∧ L k i = some (b j)) ∨ (∀ j, i ≤ j → j < n → ¬ p j) ∧ L k i = some r
  | 0, i, hi, hk => by omega
  | k + 1, i, hi, hk => by
    by_cases h : i < n
    · by_cases hp : p i
      · exact .inl ⟨i, Nat.le_refl _, h, hp, fun m h1 h2 => by omega, hb k i h hp⟩
      · rw [hs k i h hp]
        rcases for_find n L p b r hs hb he k (i + 1) (by omega) (by omega) with ⟨j, h1, h2, h3, h4, h5⟩ | ⟨h1, h2⟩
        · refine .inl ⟨j, by omega, h2, h3, fun m hm1 hm2 => ?_, h5⟩
          by_cases e : m = i
          · subst e; exact hp
          · exact h4 m (by omega) hm2
        · refine .inr ⟨fun j hj1 hj2 => ?_, h2⟩
          by_cases e : j = i
          · subst e; exact hp
          · exact h1 j (by omega) hj2
    · have : i = n := by omega
      subst this; exact .inr ⟨fun j h1 h2 => by omega, he k⟩
/-- The same for a Bool: do all places pass? -/
theorem for_all {n : Nat} {L : Nat → Nat → Option Bool} (p : Nat → Prop) (hs : ∀ k i, i < n → p i → L (k + 1) i = L k (i + 1)) (hb : ∀ k i, i < n → ¬ p i → L (k + 1) i = some false) (c : Bool) (he : ∀ k, L (k + 1) n = some c) {q : Bool}
    (hq : q = true ↔ (∀ j, j < n → p j) ∧ c = true) (k : Nat) (hk : n < k) : L k 0 = some q := by
  rcases for_find n L (fun i => ¬ p i) (fun _ => false) c (fun k i h hp => hs k i h (Classical.not_not.1 hp)) (fun k i h hp => hb k i h hp) he k 0 (Nat.zero_le _) (by omega) with ⟨j, _, h2, h3, _, h5⟩ | ⟨h1, h2⟩
  · rw [h5]; congr 1; symm
    rw [Bool.eq_false_iff]; intro hh; exact h3 ((hq.1 hh).1 j h2)
  · rw [h2]; congr 1
    have : ∀ j, j < n → p j := fun j hj => Classical.not_not.1 (h1 j (Nat.zero_le _) hj)
    rw [Bool.eq_iff_iff, hq]; exact ⟨fun h => ⟨this, h⟩, fun h => h.2⟩
/-- What is written, place by place. -/
theorem set_step {α : Type} (a b : List α) (i : Nat) (hi : i < a.length) (hb : b.length = a.length) : (a.take i ++ b.drop i).set i (a[i]'hi) = a.take (i + 1) ++ b.drop (i + 1) := by
  rw [List.set_append_right _ _ (by simp; omega), List.length_take, Nat.min_eq_left (by omega), Nat.sub_self, List.take_succ_eq_append_getElem hi, List.append_assoc]
  congr 1
  rw [List.drop_eq_getElem_cons (by omega)]
  rfl
theorem snoc_step {α : Type} (a : List α) (i : Nat) (hi : i < a.length) : a.take i ++ [a[i]'hi] = a.take (i + 1) := by
  rw [List.take_succ_eq_append_getElem hi]
theorem eq_iff_all (a b : List Int) (h : a.length = b.length) : a = b ↔ ∀ j, j < a.length → rd a (j : Int) = rd b (j : Int) := by
  constructor
  · rintro rfl j _; rfl
  · intro hh; refine List.ext_getElem h (fun j h1 h2 => ?_)
    have := hh j h1
    rwa [rd_nat a j h1, rd_nat b j h2] at this
/-- What marks hold: s, s + 1, .. -/
def iota (s : Int) (n : Nat) : List Int := (List.range n).map fun (i : Nat) => s + (i : Int)
theorem iota_length (s : Int) (n : Nat) : (iota s n).length = n := by simp [iota]
theorem iota_get (s : Int) (n i : Nat) (h : i < n) : (iota s n)[i]'(by rw [iota_length]; exact h) = s + i := by simp [iota]
/-- The same as bytes. -/
def iota8 (s : Int) (n : Nat) : List Int := (List.range n).map fun (i : Nat) => (s + (i : Int)) % 256
theorem iota8_length (s : Int) (n : Nat) : (iota8 s n).length = n := by simp [iota8]
theorem iota8_get (s : Int) (n i : Nat) (h : i < n) : (iota8 s n)[i]'(by rw [iota8_length]; exact h) = (s + i) % 256 := by simp [iota8]
theorem wraps_i64 (n : Int) (h0 : 0 ≤ n) (h1 : n < 2 ^ 62) : IntKind.i64.wrap n = n := by rw [IntKind.wrap_i64]; omega
theorem and255 (x : Int) (h0 : 0 ≤ x) (h : x ≤ 65535) : Go.bits .and .i64 x 255 = x % 256 := bits_mask .i64 62 (by decide) wraps_i64 8 (by decide) x h0 (by omega)
/-- Does a search find something. -/
theorem idx_any {n : Nat} (L : Nat → Nat → Option Int) (q : Nat → Bool) (hs : ∀ k i, i < n → q i = false → L (k + 1) i = L k (i + 1)) (hb : ∀ k i, i < n → q i = true → L (k + 1) i = some (i : Int)) (he : ∀ k, L (k + 1) n = some (-1)) (r : Bool)
    (hr : r = true ↔ ∃ j, j < n ∧ q j = true) (k : Nat) (hk : n < k) : ∃ v, L k 0 = some v ∧ decide (v ≥ 0) = r := by
  rcases for_find n L (fun i => q i = true) (fun i => (i : Int)) (-1) (fun k i h hp => hs k i h (by simpa using hp)) hb he k 0 (Nat.zero_le _) (by omega) with ⟨j, _, h2, h3, _, h5⟩ | ⟨h1, h2⟩
  · refine ⟨_, h5, ?_⟩
    rw [decide_eq_true (by omega : (j : Int) ≥ 0)]; exact (hr.2 ⟨j, h2, h3⟩).symm
  · refine ⟨_, h2, ?_⟩
    rw [decide_eq_false (by omega : ¬ (-1 : Int) ≥ 0)]; symm; rw [Bool.eq_false_iff]; intro hh
    obtain ⟨j, hj, hq⟩ := hr.1 hh
    exact h1 j (Nat.zero_le _) hj hq
/-- A count that goes down, item by item, and stops below nothing. -/
theorem sz_loop {n C : Nat} {M : Int} (L : Nat → Nat → Int → Option Int) (P : Nat → Prop) (hs : ∀ k i a, i < n → C ≤ k → 0 ≤ a → a ≤ M → (∃ r, r < 0 ∧ L (k + 1) i a = some r) ∨ ∃ t, 0 ≤ t ∧ t ≤ a ∧ P i ∧ L (k + 1) i a = L k (i + 1) t)
    (he : ∀ k a, L (k + 1) n a = some a) : ∀ (m i : Nat) (a : Int), i ≤ n → n < i + m → 0 ≤ a → a ≤ M → ∃ r, L (m + C) i a = some r ∧ r ≤ a ∧ (0 ≤ r → ∀ j, i ≤ j → j < n → P j)
  | 0, i, a, hi, hm, _, _ => by omega
  | m + 1, i, a, hi, hm, h0, h1 => by
    rw [show m + 1 + C = (m + C) + 1 by omega]
    by_cases h : i < n
    · rcases hs (m + C) i a h (by omega) h0 h1 with ⟨r, hr, e⟩ | ⟨t, ht0, ht, hp, e⟩
      · exact ⟨r, e, by omega, fun h => by omega⟩
      · obtain ⟨r, e2, hr, hq⟩ := sz_loop L P hs he m (i + 1) t (by omega) (by omega) ht0 (by omega)
        refine ⟨r, by rw [e, e2], by omega, fun h0 j hj1 hj2 => ?_⟩
        by_cases c : j = i
        · subst c; exact hp
        · exact hq h0 j (by omega) hj2
    · have : i = n := by omega
      subst this
      exact ⟨a, he _ _, Int.le_refl _, fun _ j h1 h2 => by omega⟩
/-- A list made place by place. -/
theorem to_loop {α : Type} {C : Nat} (v z : List α) (hz : z.length = v.length) (L : Nat → Nat → List α → Option (List α)) (hs : ∀ k i s (hi : i < v.length), C ≤ k → s.length = v.length → L (k + 1) i s = L k (i + 1) (s.set i (v[i]'hi)))
    (he : ∀ k s, L (k + 1) v.length s = some s) (k : Nat) (hk : v.length + C < k) : L k 0 z = some v := by
  have h := for_st v.length (fun k' i (s : List α) => L (k' + C) i s) (fun i => v.take i ++ z.drop i) v ?_ ?_ (k - C) 0 (Nat.zero_le _) (by omega)
  · rw [show k - C + C = k by omega] at h; simpa using h
  · intro k' i hi
    rw [show k' + 1 + C = (k' + C) + 1 by omega, hs _ _ _ hi (by omega) (by simp; omega), set_step _ _ _ hi hz]
  · intro k'
    rw [show k' + 1 + C = (k' + C) + 1 by omega, he, List.take_of_length_le (Nat.le_refl _), List.drop_of_length_le (by omega), List.append_nil]
/-- Equal, place by place. -/
theorem same_loop {n C : Nat} (L : Nat → Nat → Option Bool) (hs : ∀ k i, i < n → C ≤ k → L (k + 1) i = L k (i + 1)) (he : ∀ k, L (k + 1) n = some true) (k : Nat) (hk : n + C < k) : L k 0 = some true := by
  have h := for_st n (fun k' i (_ : Unit) => L (k' + C) i) (fun _ => ()) true ?_ ?_ (k - C) 0 (Nat.zero_le _) (by omega)
  · rw [show k - C + C = k by omega] at h; exact h
  · intro k' i hi; rw [show k' + 1 + C = (k' + C) + 1 by omega, hs _ _ hi (by omega)]
  · intro k'; rw [show k' + 1 + C = (k' + C) + 1 by omega, he]
def wordsB (l : List Int) (n : Int) : Bool := decide ((l.length : Int) = n) && l.all (fun x => decide (0 ≤ x ∧ x ≤ 65535))
theorem wordsB_mem {l : List Int} {n : Int} (h : wordsB l n = true) (x : Int) (hx : x ∈ l) : 0 ≤ x ∧ x ≤ 65535 := by
  unfold wordsB at h; rw [Bool.and_eq_true, List.all_eq_true] at h; exact of_decide_eq_true (h.2 x hx)
/-- Is it a hart: four words, a cell, a state. -/
def hartB (regs : List Int) (pc st : Int) : Bool := wordsB regs 4 && (decide (0 ≤ pc ∧ pc ≤ 23) && decide (0 ≤ st ∧ st ≤ 2))
theorem ite_some' (b c : Bool) : (if b = true then some c else some false) = some (b && c) := by cases b <;> rfl
theorem hartB_len {r : List Int} {p s : Int} (h : hartB r p s = true) : r.length = 4 := by
  unfold hartB wordsB at h; rw [Bool.and_eq_true, Bool.and_eq_true] at h; have := of_decide_eq_true h.1.1; omega
theorem wordsB_24 {l : List Int} (h : wordsB l 24 = true) : l.length = 24 := by unfold wordsB at h; rw [Bool.and_eq_true] at h; have := of_decide_eq_true h.1; omega
theorem tmod_pos (n c : Int) (h : 0 ≤ n) : Int.tmod n c = n % c := Int.tmod_eq_emod_of_nonneg h
theorem tmod_neg (n c : Int) (h : n < 0) : Int.tmod n c = -((-n) % c) := by
  rw [← Int.tmod_eq_emod_of_nonneg (by omega : 0 ≤ -n), Int.neg_tmod, Int.neg_neg]
theorem tdiv_pos (n c : Int) (h : 0 ≤ n) : Int.tdiv n c = n / c := Int.tdiv_eq_ediv_of_nonneg h
/-- A remainder brought up from below nothing. -/
theorem tmod_up (n c : Int) (hc : 0 < c) (hb : c ≤ 4294967296) : Int.tmod (Int.tmod n c + c) c = n % c := by
  have h1 := Int.emod_nonneg n (by omega : c ≠ 0)
  have h2 := Int.emod_lt_of_pos n hc
  rcases Int.lt_or_le n 0 with h | h
  · rw [tmod_neg n c h]
    have h3 := Int.emod_nonneg (-n) (by omega : c ≠ 0)
    have h4 := Int.emod_lt_of_pos (-n) hc
    rw [tmod_pos _ _ (by omega), Int.add_emod_right, ← Int.sub_emod_right]
    have := Int.emod_add_mul_ediv (-n) c
    have e : -(-n % c) - c = n + c * ((-n) / c - 1) := by
      have : n = -(-n % c) - c * ((-n) / c) := by omega
      rw [Int.mul_sub]; omega
    rw [e, Int.add_mul_emod_self_left]
  · rw [tmod_pos n c h, tmod_pos _ _ (by omega), Int.add_emod_right, Int.emod_emod_of_dvd _ (Int.dvd_refl c)]
theorem tmod_bd (n c : Int) (hc : 0 < c) : -c < Int.tmod n c ∧ Int.tmod n c < c := by
  rcases Int.lt_or_le n 0 with h | h
  · rw [tmod_neg n c h]
    have h3 := Int.emod_nonneg (-n) (by omega : c ≠ 0)
    have h4 := Int.emod_lt_of_pos (-n) hc
    omega
  · rw [tmod_pos n c h]
    have h3 := Int.emod_nonneg n (by omega : c ≠ 0)
    have h4 := Int.emod_lt_of_pos n hc
    omega
/-- for_st, where some rounds stay over. -/
theorem for_stC {σ ρ : Type} (C n : Nat) (L : Nat → Nat → σ → Option ρ) (st : Nat → σ) (r : ρ) (hs : ∀ k i, C ≤ k → i < n → L (k + 1) i (st i) = L k (i + 1) (st (i + 1))) (he : ∀ k, C ≤ k → L (k + 1) n (st n) = some r) :
    ∀ (k i : Nat), i ≤ n → n + C < i + k → L k i (st i) = some r
  | 0, i, hi, hk => by omega
  | k + 1, i, hi, hk => by
    by_cases h : i < n
    · rw [hs k i (by omega) h]; exact for_stC C n L st r hs he k (i + 1) (by omega) (by omega)
    · have : i = n := by omega
      subst this; exact he k (by omega)
theorem toIntS_eq (l : List Int) (hl : l.length ≤ 1048576) (k : Nat) (hk : l.length < k) : laws_toIntS.f k l = some l := by
  unfold laws_toIntS.f
  rw [if_pos (by omega), if_pos (by simp; omega)]
  have h := for_st l.length (fun k i s => laws_toIntS.l0 k l s (i : Int)) (fun i => l.take i ++ (List.replicate l.length 0).drop i) l ?_ ?_ k 0 (Nat.zero_le _) (by omega)
  · simpa using h
  · intro k i hi
    simp only [laws_toIntS.l0]
    rw [if_pos (by omega), if_pos (by omega), if_pos (by simp; omega), wrap_succ (by omega), rd_nat l i hi]
    simp only [Int.toNat_natCast]
    rw [set_step _ _ _ hi (by simp)]
  · intro k
    simp only [laws_toIntS.l0]
    rw [if_neg (by omega)]; simp
theorem eqIntS_eq (a b : List Int) (hl : a.length ≤ 1048576) (k : Nat) (hk : a.length < k) : laws_eqIntS.f k a b = some (decide (a = b)) := by
  unfold laws_eqIntS.f
  by_cases h : a.length = b.length
  · rw [if_pos (by omega)]
    refine for_all (L := fun k i => laws_eqIntS.l0 k a b (i : Int)) (n := a.length) (fun j => rd a (j : Int) = rd b (j : Int)) ?_ ?_ true ?_ ?_ k hk
    · intro k i hi hp
      simp only [laws_eqIntS.l0]
      rw [if_pos (by omega), if_pos (by omega), if_pos (by omega), if_pos hp, wrap_succ (by omega)]
    · intro k i hi hp
      simp only [laws_eqIntS.l0]
      rw [if_pos (by omega), if_pos (by omega), if_pos (by omega), if_neg hp]
    · intro k
      simp only [laws_eqIntS.l0]
      rw [if_neg (by omega)]
    · rw [decide_eq_true_iff, eq_iff_all a b h]; simp
  · rw [if_neg (by omega)]
    have : a ≠ b := fun hh => h (by rw [hh])
    simp [this]
theorem markIntS_eq (l : List Int) (s : Int) (h0 : 0 ≤ s) (h1 : s ≤ 1152921504606846976) (hl : l.length ≤ 2097152) (k : Nat) (hk : l.length < k) : laws_markIntS.f k l s = some (s + l.length, iota s l.length) := by
  unfold laws_markIntS.f
  have h := for_st l.length (fun k i (t : List Int × Int) => laws_markIntS.l0 k t.1 t.2 (i : Int)) (fun i => ((iota s l.length).take i ++ l.drop i, s + (i : Int))) (s + l.length, iota s l.length) ?_ ?_ k 0 (Nat.zero_le _) (by omega)
  · simpa using h
  · intro k i hi
    simp only [laws_markIntS.l0]
    rw [if_pos (by simp [iota_length]; omega), if_pos (by omega), wrap_succ (by omega), wrap_small (by omega) (by omega)]
    simp only [Int.toNat_natCast]
    rw [← iota_get s l.length i hi, set_step _ _ _ (by rw [iota_length]; exact hi) (by rw [iota_length])]
    congr 1
    rw [iota_get s l.length i hi]; omega
  · intro k
    simp only [laws_markIntS.l0]
    rw [if_neg (by simp [iota_length])]
    simp [List.take_of_length_le, iota_length]
theorem heldIntS_eq (s : Int) (n : Nat) (h0 : 0 ≤ s) (h1 : s ≤ 1152921504606846976) (hl : n ≤ 2097152) (k : Nat) (hk : n < k) : laws_heldIntS.f k (iota s n) s = some (s + n) := by
  unfold laws_heldIntS.f
  have h := for_st n (fun k i (t : Int) => laws_heldIntS.l0 k (iota s n) t (i : Int)) (fun i => s + (i : Int)) (s + n) ?_ ?_ k 0 (Nat.zero_le _) (by omega)
  · simpa using h
  · intro k i hi
    simp only [laws_heldIntS.l0]
    rw [if_pos (by simp [iota_length]; omega), if_pos (by omega), rd_nat _ _ (by rw [iota_length]; exact hi), if_pos (iota_get s n i hi), wrap_succ (by omega), wrap_small (by omega) (by omega)]
    congr 1; omega
  · intro k
    simp only [laws_heldIntS.l0]
    rw [if_neg (by simp [iota_length])]
theorem l1In_eq (x lo hi : Int) : spec_l1In.f x lo hi = some (decide (lo ≤ x ∧ x ≤ hi)) := by
  unfold spec_l1In.f
  by_cases h : x ≥ lo
  · rw [if_pos h]; have h' : lo ≤ x := h; simp [h']
  · rw [if_neg h]; have h' : ¬ lo ≤ x := h; simp [h']
theorem from_eq (x lo hi : Int) : impl_from.f x lo hi = some (decide (lo ≤ x ∧ x ≤ hi)) := by
  unfold impl_from.f
  by_cases h : x ≥ lo
  · rw [if_pos h]; have h' : lo ≤ x := h; simp [h']
  · rw [if_neg h]; have h' : ¬ lo ≤ x := h; simp [h']
theorem isWord_eq (x : Int) : impl_isWord.f x = some (decide (0 ≤ x ∧ x ≤ 65535)) := by
  unfold impl_isWord.f; rw [from_eq]; rfl
theorem isCell_eq (x : Int) : impl_isCell.f x = some (decide (0 ≤ x ∧ x ≤ 23)) := by
  unfold impl_isCell.f; rw [from_eq]; rfl
theorem l1Words_eq (l : List Int) (n : Int) (hl : l.length ≤ 2097152) (k : Nat) (hk : l.length < k) : spec_l1Words.f k l n = some (wordsB l n) := by
  unfold spec_l1Words.f
  refine for_all (L := fun k i => spec_l1Words.l0 k l n (i : Int)) (n := l.length) (fun j => 0 ≤ rd l (j : Int) ∧ rd l (j : Int) ≤ 65535) ?_ ?_ (decide ((l.length : Int) = n)) ?_ ?_ k hk
  · intro k i hi hp
    simp only [spec_l1Words.l0]
    rw [if_pos (by omega), if_pos (by omega), l1In_eq, decide_eq_true hp, Option.bind_some, if_pos rfl, wrap_succ (by omega)]
  · intro k i hi hp
    simp only [spec_l1Words.l0]
    rw [if_pos (by omega), if_pos (by omega), l1In_eq, decide_eq_false hp, Option.bind_some, if_neg (by simp)]
  · intro k
    simp only [spec_l1Words.l0]
    rw [if_neg (by omega)]; rfl
  · unfold wordsB
    rw [Bool.and_eq_true, List.all_eq_true]
    constructor
    · rintro ⟨h1, h2⟩; exact ⟨fun j hj => of_decide_eq_true (h2 _ (rd_mem l j hj)), h1⟩
    · rintro ⟨h1, h2⟩; refine ⟨h2, fun x hx => ?_⟩
      obtain ⟨j, hj, rfl⟩ := List.getElem_of_mem hx
      have := h1 j hj; rw [rd_nat l j hj] at this; exact decide_eq_true this
theorem wordsOk_eq (l : List Int) (n : Int) (hl : l.length ≤ 2097152) (k : Nat) (hk : l.length < k) : impl_wordsOk.f k l n = some (wordsB l n) := by
  unfold impl_wordsOk.f
  by_cases h : (l.length : Int) = n
  · rw [if_pos h]
    unfold slices_ContainsFunc_at_impl_wordsOk_1.f slices_IndexFunc_at_impl_wordsOk_1.f
    have hf : ∀ x, impl_wordsOk_1.f x = some (!decide (0 ≤ x ∧ x ≤ 65535)) := fun x => by unfold impl_wordsOk_1.f; rw [isWord_eq]; rfl
    have hs : ∀ k i, i < l.length → ¬ ¬ (0 ≤ rd l (i : Int) ∧ rd l (i : Int) ≤ 65535) → slices_IndexFunc_at_impl_wordsOk_1.l0 (k + 1) l (l.length : Int) (i : Int) = slices_IndexFunc_at_impl_wordsOk_1.l0 k l (l.length : Int) ((i + 1 : Nat) : Int) := by
      intro k i hi hp
      simp only [slices_IndexFunc_at_impl_wordsOk_1.l0]
      rw [if_pos (by omega), if_pos (by omega), if_pos (by omega), hf, decide_eq_true (Classical.not_not.1 hp), Option.bind_some, if_neg (by simp), wrap_succ (by omega)]
    have hb : ∀ k i, i < l.length → ¬ (0 ≤ rd l (i : Int) ∧ rd l (i : Int) ≤ 65535) → slices_IndexFunc_at_impl_wordsOk_1.l0 (k + 1) l (l.length : Int) (i : Int) = some (i : Int) := by
      intro k i hi hp
      simp only [slices_IndexFunc_at_impl_wordsOk_1.l0]
      rw [if_pos (by omega), if_pos (by omega), if_pos (by omega), hf, decide_eq_false hp, Option.bind_some, if_pos (by simp)]
    have he : ∀ k, slices_IndexFunc_at_impl_wordsOk_1.l0 (k + 1) l (l.length : Int) (l.length : Int) = some (-1) := by
      intro k
      simp only [slices_IndexFunc_at_impl_wordsOk_1.l0]
      rw [if_neg (by omega)]
    rcases for_find l.length (fun k i => slices_IndexFunc_at_impl_wordsOk_1.l0 k l (l.length : Int) (i : Int)) (fun j => ¬ (0 ≤ rd l (j : Int) ∧ rd l (j : Int) ≤ 65535)) (fun j => (j : Int)) (-1) hs hb he k 0 (Nat.zero_le _) (by omega) with ⟨j, _, h2, h3, _, h5⟩ | ⟨h1, h2⟩
    · have h5' : slices_IndexFunc_at_impl_wordsOk_1.l0 k l (l.length : Int) 0 = some (j : Int) := h5
      rw [h5']
      simp only [Option.bind_some]; congr 1; symm
      rw [decide_eq_true (by omega : (j : Int) ≥ 0), Bool.not_true, wordsB, Bool.and_eq_false_iff]; right
      rw [Bool.eq_false_iff]; intro hh
      exact h3 (of_decide_eq_true (List.all_eq_true.1 hh _ (rd_mem l j h2)))
    · have h2' : slices_IndexFunc_at_impl_wordsOk_1.l0 k l (l.length : Int) 0 = some (-1) := h2
      rw [h2']
      simp only [Option.bind_some]; congr 1; symm
      rw [decide_eq_false (by omega : ¬ (-1 : Int) ≥ 0), Bool.not_false, wordsB, decide_eq_true h, Bool.true_and, List.all_eq_true]
      intro x hx
      obtain ⟨j, hj, rfl⟩ := List.getElem_of_mem hx
      have := Classical.not_not.1 (h1 j (Nat.zero_le _) hj); rw [rd_nat l j hj] at this; exact decide_eq_true this
  · rw [if_neg h, wordsB, decide_eq_false h, Bool.false_and]
theorem memOk_eq (l : List Int) (hl : l.length ≤ 2097152) (k : Nat) (hk : l.length < k) : impl_memOk.f k l = some (wordsB l 24) := by
  unfold impl_memOk.f; rw [wordsOk_eq l 24 hl k hk]; rfl
theorem insOkB_bounds {o r a b n : Int} (h : insOkB o r a b n = true) : 1 ≤ o ∧ o ≤ 10 ∧ 0 ≤ r ∧ r ≤ 3 ∧ 0 ≤ a ∧ a ≤ 3 ∧ 0 ≤ b ∧ b ≤ 3 ∧ 0 ≤ n ∧ n ≤ 63 := by
  unfold insOkB at h
  simp only [Bool.and_eq_true, decide_eq_true_eq] at h
  obtain ⟨h0, ⟨h1, h1'⟩, ⟨h2, h2'⟩, ⟨h3, h3'⟩, ⟨h4, h4'⟩⟩ := h
  refine ⟨?_, ?_, h1, h1', h2, h2', h3, h3', h4, h4'⟩
  · by_cases c : 1 ≤ o
    · exact c
    · exfalso
      rw [if_neg (by omega), if_neg (by omega), if_neg (by omega), if_neg (by omega), if_neg (by omega), if_neg (by omega), if_neg (by omega), if_neg (by omega), if_neg (by omega), if_neg (by omega)] at h0
      cases h0
  · by_cases c : o ≤ 10
    · exact c
    · exfalso
      rw [if_neg (by omega), if_neg (by omega), if_neg (by omega), if_neg (by omega), if_neg (by omega), if_neg (by omega), if_neg (by omega), if_neg (by omega), if_neg (by omega), if_neg (by omega)] at h0
      cases h0
theorem ite_some (b c : Bool) : (if b = true then some c else some false) = some (b && c) := by cases b <;> rfl
theorem l8Field_eq (x m : Int) (h : Bool) : spec_l8Field.f x m h = some (decide (0 ≤ x ∧ x ≤ m) && (h || decide (x = 0))) := by
  unfold spec_l8Field.f
  rw [l1In_eq, Option.bind_some]
  have e : (x == 0) = decide (x = 0) := rfl
  rw [e]
  cases h <;> simp only [if_true, Bool.false_eq_true, if_false, Bool.true_or, Bool.false_or, ite_some]
theorem specInsOk_eq (o r a b n : Int) : spec_InsOk.f o r a b n = some (insOkB o r a b n) := by
  unfold spec_InsOk.f spec_l8Has.f
  simp only [l1In_eq, l8Field_eq, Option.bind_some, ite_some]
  by_cases ho : 1 ≤ o ∧ o ≤ 10
  · have hc : o = 1 ∨ o = 2 ∨ o = 3 ∨ o = 4 ∨ o = 5 ∨ o = 6 ∨ o = 7 ∨ o = 8 ∨ o = 9 ∨ o = 10 := by omega
    rw [decide_eq_true ho]
    rcases hc with rfl | rfl | rfl | rfl | rfl | rfl | rfl | rfl | rfl | rfl <;>
      (simp only [if_true, Option.bind_some, List.length_cons, List.length_nil]
       rw [if_pos (by omega), if_pos (by omega)]
       simp only [rd, Option.bind_some, Bool.true_and]
       congr 1
       rw [Bool.eq_iff_iff]
       simp [insOkB, show Go.bits .and .i64 0 1 = 0 by decide, show Go.bits .and .i64 0 2 = 0 by decide, show Go.bits .and .i64 0 4 = 0 by decide, show Go.bits .and .i64 0 8 = 0 by decide,
        show Go.bits .and .i64 7 1 = 1 by decide, show Go.bits .and .i64 7 2 = 2 by decide, show Go.bits .and .i64 7 4 = 4 by decide, show Go.bits .and .i64 7 8 = 0 by decide,
        show Go.bits .and .i64 8 1 = 0 by decide, show Go.bits .and .i64 8 2 = 0 by decide, show Go.bits .and .i64 8 4 = 0 by decide, show Go.bits .and .i64 8 8 = 8 by decide,
        show Go.bits .and .i64 9 1 = 1 by decide, show Go.bits .and .i64 9 2 = 0 by decide, show Go.bits .and .i64 9 4 = 0 by decide, show Go.bits .and .i64 9 8 = 8 by decide,
        show Go.bits .and .i64 10 1 = 0 by decide, show Go.bits .and .i64 10 2 = 2 by decide, show Go.bits .and .i64 10 4 = 0 by decide, show Go.bits .and .i64 10 8 = 8 by decide,
        show Go.bits .and .i64 11 1 = 1 by decide, show Go.bits .and .i64 11 2 = 2 by decide, show Go.bits .and .i64 11 4 = 0 by decide, show Go.bits .and .i64 11 8 = 8 by decide,
        show Go.bits .and .i64 14 1 = 0 by decide, show Go.bits .and .i64 14 2 = 2 by decide, show Go.bits .and .i64 14 4 = 4 by decide, show Go.bits .and .i64 14 8 = 8 by decide,
        show Go.bits .and .i64 15 1 = 1 by decide, show Go.bits .and .i64 15 2 = 2 by decide, show Go.bits .and .i64 15 4 = 4 by decide, show Go.bits .and .i64 15 8 = 8 by decide]
       try omega)
  · have hn : ∀ c, 1 ≤ c → c ≤ 10 → o ≠ c := fun c h1 h2 e => ho (by omega)
    simp [ho, insOkB, hn]
theorem implAddress_eq (n : Int) : impl_address.f n = some (n % 24) := by
  unfold impl_address.f
  have b := tmod_bd n 24 (by omega)
  rw [wrap_small (by omega) (by omega), tmod_up n 24 (by omega) (by omega)]
/-- What a word says. -/
def insOf (w : Int) : Int × Int × Int × Int × Int := (w % 16, w / 16 % 4, w / 64 % 4, w / 256 % 4, w / 1024)
def decodeB (w : Int) : Bool := decide (0 ≤ w ∧ w ≤ 65535) && insOkB (w % 16) (w / 16 % 4) (w / 64 % 4) (w / 256 % 4) (w / 1024)
def decodeV (w : Int) : Int × Int × Int × Int × Int × Bool := if decodeB w = true then (w % 16, w / 16 % 4, w / 64 % 4, w / 256 % 4, w / 1024, true) else (0, 0, 0, 0, 0, false)
theorem implDecode_eq (w : Int) : impl_Decode.f w = some (decodeV w) := by
  unfold impl_Decode.f decodeV decodeB impl_InsOk.f
  rw [isWord_eq, Option.bind_some]
  by_cases h : 0 ≤ w ∧ w ≤ 65535
  · rw [decide_eq_true h, if_pos rfl, Bool.true_and]
    have e1 : Int.tmod w 16 = w % 16 := tmod_pos _ _ h.1
    have e2 : Int.tmod (wrap64 (Int.tdiv w 16)) 4 = w / 16 % 4 := by rw [tdiv_pos _ _ h.1, wrap_small (by omega) (by omega), tmod_pos _ _ (by omega)]
    have e3 : Int.tmod (wrap64 (Int.tdiv w 64)) 4 = w / 64 % 4 := by rw [tdiv_pos _ _ h.1, wrap_small (by omega) (by omega), tmod_pos _ _ (by omega)]
    have e4 : Int.tmod (wrap64 (Int.tdiv w 256)) 4 = w / 256 % 4 := by rw [tdiv_pos _ _ h.1, wrap_small (by omega) (by omega), tmod_pos _ _ (by omega)]
    have e5 : wrap64 (Int.tdiv w 1024) = w / 1024 := by rw [tdiv_pos _ _ h.1, wrap_small (by omega) (by omega)]
    rw [e1, e2, e3, e4, e5, Option.bind_some]
    by_cases c : insOkB (w % 16) (w / 16 % 4) (w / 64 % 4) (w / 256 % 4) (w / 1024) = true
    · rw [if_pos c, if_pos c]
    · rw [if_neg c, if_neg c]
  · rw [decide_eq_false h, if_neg (by simp), Bool.false_and, if_neg (by simp)]
theorem sort1 (a : Int) : slices_Sort_int_int.f [a] = some [a] := by
  unfold slices_Sort_int_int.f; rw [if_pos (by simp)]; simp
theorem sort2 (a b : Int) : slices_Sort_int_int.f [a, b] = some (if a ≤ b then [a, b] else [b, a]) := by
  unfold slices_Sort_int_int.f; rw [if_pos (by simp)]
  congr 1
  have e : List.mergeSort [a, b] (fun x y => decide (x ≤ y)) = List.merge [a] [b] (fun x y => decide (x ≤ y)) := by
    rw [List.mergeSort]; simp [List.MergeSort.Internal.splitInTwo]
  rw [e]
  by_cases h : a ≤ b
  · simp [List.merge, h]
  · simp [List.merge, h]
theorem compact1 (a : Int) : slices_Compact_int_int.f [a] = some [a] := by
  unfold slices_Compact_int_int.f; rw [if_pos (by simp)]; rfl
theorem compact2 (a b : Int) : slices_Compact_int_int.f [a, b] = some (if a = b then [a] else [a, b]) := by
  unfold slices_Compact_int_int.f; rw [if_pos (by simp)]
  congr 1
  by_cases h : a = b
  · subst h; simp [Go.Lib.compact, Go.Lib.compactUpTo, Go.Lib.keeps, show List.range 2 = [0, 1] from rfl, List.filter]
  · simp [Go.Lib.compact, Go.Lib.compactUpTo, Go.Lib.keeps, h, show List.range 2 = [0, 1] from rfl, List.filter, show (decide (b = a)) = false from decide_eq_false (fun q => h q.symm)]
theorem addr_eq (x : Int) : impl_address.f x = some (x % 24) := by
  unfold impl_address.f
  have hb := tmod_bd x 24 (by omega)
  rw [wrap_small (by omega) (by omega), tmod_up x 24 (by omega) (by omega)]
theorem l9_eq (x : Int) : spec_l9Address.f x = some (x % 24) := by
  unfold spec_l9Address.f
  have hb := tmod_bd x 24 (by omega)
  have hu := tmod_up x 24 (by omega) (by omega)
  generalize x.tmod 24 = t at hb hu ⊢
  rw [← hu]
  by_cases c : t < 0
  · rw [if_pos c, wrap_small (by omega) (by omega), tmod_pos _ _ (by omega), Int.emod_eq_of_lt (by omega) (by omega)]
  · rw [if_neg c, tmod_pos _ _ (by omega), Int.add_emod_right, Int.emod_eq_of_lt (by omega) (by omega)]
theorem dec_same (w : Int) : spec_Decode.f w = impl_Decode.f w := by
  unfold spec_Decode.f impl_Decode.f
  rw [isWord_eq, l1In_eq, Option.bind_some, Option.bind_some, specInsOk_eq]
  rfl
def nextOf (pc : Int) (d : Int × Int × Int × Int × Int × Bool) : List Int := if d.2.2.2.2.2 = true ∧ d.1 ≠ 9 then (if d.1 = 8 then [d.2.2.2.2.1 % 24] else if d.1 = 7 then (if d.2.2.2.2.1 % 24 = (pc + 1) % 24 then [(pc + 1) % 24] else if d.2.2.2.2.1 % 24 < (pc + 1) % 24 then [d.2.2.2.2.1 % 24, (pc + 1) % 24] else [(pc + 1) % 24, d.2.2.2.2.1 % 24]) else [(pc + 1) % 24]) else []
def nx (m : List Int) (pc : Int) : List Int := if wordsB m 24 = true ∧ (0 ≤ pc ∧ pc ≤ 23) then nextOf pc ((impl_Decode.f (rd m pc)).getD (0, 0, 0, 0, 0, false)) else []
theorem nx_cell (m : List Int) (pc : Int) : ∀ y ∈ nx m pc, 0 ≤ y ∧ y < 24 := by
  unfold nx nextOf
  intro y hy
  repeat' split at hy
  all_goals (simp only [List.mem_cons, List.mem_nil_iff, or_false, List.not_mem_nil] at hy)
  all_goals (first | (subst hy; omega) | (rcases hy with rfl | rfl <;> omega))
theorem next_eq (m : List Int) (pc : Int) (hl : m.length ≤ 1048576) (k : Nat) (hk : 2000000 < k) : impl_NextOf.f k m pc = some (nx m pc) ∧ spec_NextOf.f k m pc = some (nx m pc) ∧ (nx m pc).length ≤ 2 := by
  obtain ⟨k, rfl⟩ : ∃ q, k = q + 3 := ⟨k - 3, by omega⟩
  unfold impl_NextOf.f spec_NextOf.f
  rw [memOk_eq m (by omega) _ (by omega), l1Words_eq m 24 (by omega) _ (by omega), Option.bind_some, Option.bind_some]
  by_cases hw : wordsB m 24 = true
  · rw [if_pos hw, if_pos hw, isCell_eq, l1In_eq, Option.bind_some, Option.bind_some]
    by_cases hc : 0 ≤ pc ∧ pc ≤ 23
    · have l24 := wordsB_24 hw
      obtain ⟨d, hd⟩ : ∃ d, impl_Decode.f (rd m pc) = some d := by
        unfold impl_Decode.f
        rw [isWord_eq, Option.bind_some]
        split
        · unfold impl_InsOk.f
          rw [Option.bind_some]
          split
          · exact ⟨_, rfl⟩
          · exact ⟨_, rfl⟩
        · exact ⟨_, rfl⟩
      obtain ⟨d0, d1, d2, d3, d4, d5⟩ := d
      rw [decide_eq_true hc, Bool.not_true]
      have ex : nx m pc = nextOf pc (d0, d1, d2, d3, d4, d5) := by unfold nx; rw [if_pos ⟨hw, hc⟩, hd]; rfl
      rw [ex]
      refine ⟨?_, ?_, ?_⟩
      · rw [impl_NextOf.j0, if_neg (by simp), if_pos hc.1, if_pos (by omega), hd, Option.bind_some]
        unfold nextOf
        dsimp only
        by_cases h5 : d5 = true
        · rw [if_pos h5, impl_NextOf.j1]
          by_cases h9 : d0 = 9
          · rw [if_pos (by simp [h9]), if_neg (fun q => q.2 h9)]
          · rw [if_neg (by simp [h9]), if_pos (show d5 = true ∧ d0 ≠ 9 from ⟨h5, h9⟩), wrap_small (x := pc + 1) (by omega) (by omega), addr_eq, addr_eq]
            simp only [Option.bind_some]
            by_cases h8 : d0 = 8
            · rw [if_pos h8, if_pos h8]
            · rw [if_neg h8, if_neg h8]
              by_cases h7 : d0 = 7
              · rw [if_pos h7, if_pos h7, if_pos (by simp), List.singleton_append, sort2, Option.bind_some]
                by_cases c : (pc + 1) % 24 ≤ d4 % 24
                · rw [if_pos c, compact2, Option.bind_some]
                  by_cases e : (pc + 1) % 24 = d4 % 24
                  · rw [if_pos e, if_pos e.symm]
                  · rw [if_neg e, if_neg (fun q => e q.symm), if_neg (by omega)]
                · rw [if_neg c, compact2, Option.bind_some, if_neg (by omega), if_neg (by omega), if_pos (by omega)]
              · rw [if_neg h7, if_neg h7, sort1, Option.bind_some, compact1]; rfl
        · rw [if_neg h5, if_neg (fun q => h5 q.1), impl_NextOf.j1, if_pos rfl]
      · rw [spec_NextOf.j0, if_neg (by simp), if_pos hc.1, if_pos (by omega), dec_same, hd, Option.bind_some]
        dsimp only
        rw [wrap_small (x := pc + 1) (by omega) (by omega), l9_eq, Option.bind_some, l9_eq, Option.bind_some]
        unfold nextOf
        dsimp only
        by_cases h5 : d5 = true
        · rw [if_pos h5, spec_NextOf.j1]
          by_cases h9 : d0 = 9
          · rw [if_pos (by simp [h9]), if_neg (fun q => q.2 h9)]
          · rw [if_neg (by simp [h9]), if_pos (show d5 = true ∧ d0 ≠ 9 from ⟨h5, h9⟩)]
            by_cases h8 : d0 = 8
            · rw [if_pos h8, if_pos h8]
            · rw [if_neg h8, if_neg h8]
              by_cases h7 : d0 = 7
              · rw [if_pos h7, if_pos h7, spec_NextOf.j2]
                by_cases e : d4 % 24 = (pc + 1) % 24
                · rw [if_pos (by simp [e]), if_pos e]
                · rw [if_neg (by simp [e]), if_neg e]
                  split <;> rfl
              · rw [if_neg h7, if_neg h7, spec_NextOf.j2, if_pos rfl]
        · rw [if_neg h5, if_neg (fun q => h5 q.1), spec_NextOf.j1, if_pos rfl]
      · unfold nextOf
        repeat' split
        all_goals simp
    · rw [decide_eq_false hc, Bool.not_false, impl_NextOf.j0, if_pos rfl, spec_NextOf.j0, if_pos rfl]
      have ex : nx m pc = [] := by unfold nx; rw [if_neg (fun q => hc q.2)]
      rw [ex]; exact ⟨rfl, rfl, by simp⟩
  · rw [if_neg hw, if_neg hw, impl_NextOf.j0, if_pos rfl, spec_NextOf.j0, if_pos rfl]
    have ex : nx m pc = [] := by unfold nx; rw [if_neg (fun q => hw q.1)]
    rw [ex]; exact ⟨rfl, rfl, by simp⟩
theorem next_ex (m : List Int) (pc : Int) (hl : m.length ≤ 1048576) (k : Nat) (hk : 2000000 < k) : ∃ v, impl_NextOf.f k m pc = some v ∧ spec_NextOf.f k m pc = some v ∧ v.length ≤ 2 := ⟨_, next_eq m pc hl k hk⟩
theorem FnExactNextOf : laws_FnExactNextOf.Pure := by
  rintro m pc ⟨hm, _⟩ _
  obtain ⟨K, hK⟩ : ∃ K : Nat, 5000000 ≤ K := ⟨_, Nat.le_refl _⟩
  refine ⟨K, ?_⟩
  unfold laws_FnExactNextOf.f
  by_cases hg : (m.length : Int) > 1048576
  · rw [if_pos hg]
  have hm' : m.length ≤ 1048576 := by omega
  have e1 := toIntS_eq m hm' K (by omega)
  obtain ⟨v, e2, e3, hv⟩ := next_ex m pc hm' K (by omega)
  have e4 : laws_eqIntS.f K v v = some true := by rw [eqIntS_eq v v (by omega) K (by omega), decide_eq_true rfl]
  have e5 : laws_eqIntS.f K m m = some true := by rw [eqIntS_eq m m (by omega) K (by omega), decide_eq_true rfl]
  have e6 := markIntS_eq m 1 (by omega) (by omega) (by omega) K (by omega)
  have e7 := markIntS_eq v 1 (by omega) (by omega) (by omega) K (by omega)
  have e8 := heldIntS_eq 1 v.length (by omega) (by omega) (by omega) K (by omega)
  rw [if_neg hg, e1, Option.bind_some, e3, Option.bind_some, Option.bind_some, e2, Option.bind_some, e4, Option.bind_some, if_pos rfl, Option.bind_some, e5, Option.bind_some, if_pos rfl, e6, Option.bind_some]
  try dsimp only
  rw [if_neg (by omega), Option.bind_some, if_pos rfl, e7, Option.bind_some]
  try dsimp only
  rw [e8, Option.bind_some, if_neg (by omega), if_pos rfl, Option.bind_some, e2, Option.bind_some, e4, Option.bind_some, if_pos rfl, Option.bind_some, if_neg (by omega), if_pos rfl]
end Go.Proofs.Ytnekcbajadnldaa.Pure
