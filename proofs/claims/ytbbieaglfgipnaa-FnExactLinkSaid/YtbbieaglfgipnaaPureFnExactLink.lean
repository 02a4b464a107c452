/- For all lists of parts, the program's Link returns what the reference's Link returns, keeps its argument, and its result is its own: no conditions. -/
import Derived.Test.YtbbieaglfgipnaaPFnExactLinkx14
namespace Go.Proofs.Ytbbieaglfgipnaa.Pure
open Go.RowKit Go.Proofs.Ytbbieaglfgipnaa.PFnExactLink Go.Proofs.YtbbieaglfgipnaaW.PrintWords Go.Proofs.YtbbieaglfgipnaaW.PrintLast
set_option linter.unusedVariables false
set_option linter.unusedSimpArgs false

theorem wrap_small {x : Int} (h0 : -9223372036854775808 ≤ x) (h : x ≤ 9223372036854775807) : wrap64 x = x := by
  unfold wrap64; omega
theorem wrap_succ {i : Nat} (h : i < 4611686018427387904) : wrap64 ((i : Int) + 1) = ((i + 1 : Nat) : Int) := by
  unfold wrap64; omega
theorem rd_nat (l : List Int) (i : Nat) (h : i < l.length) : rd l (i : Int) = l[i] := by
  unfold rd; simp [List.getD, h]
theorem rd_mem (l : List Int) (i : Nat) (h : i < l.length) : rd l (i : Int) ∈ l := by
  rw [rd_nat l i h]; exact List.getElem_mem h
/-- A loop whose state is known ahead of each round. -/
theorem for_st {σ ρ : Type} (n : Nat) (L : Nat → Nat → σ → Option ρ) (st : Nat → σ) (r : ρ) (hs : ∀ k i, i < n → L (k + 1) i (st i) = L k (i + 1) (st (i + 1))) (he : ∀ k, L (k + 1) n (st n) = some r) :
    ∀ (k i : Nat), i ≤ n → n < i + k → L k i (st i) = some r
  | 0, i, hi, hk => by omega
  | k + 1, i, hi, hk => by
    by_cases h : i < n
    · rw [hs k i h]; exact for_st n L st r hs he k (i + 1) (by omega) (by omega)
    · have : i = n := by omega
      subst this; exact he k
/-- A loop that ends at the first place where p holds. -/
theorem for_find {ρ : Type} (n : Nat) (L : Nat → Nat → Option ρ) (p : Nat → Prop) (b : Nat → ρ) (r : ρ) (hs : ∀ k i, i < n → ¬ p i → L (k + 1) i = L k (i + 1)) (hb : ∀ k i, i < n → p i → L (k + 1) i = some (b i)) (he : ∀ k, L (k + 1) n = some r) :
    ∀ (k i : Nat), i ≤ n → n < i + k → (∃ j, i ≤ j ∧ j < n ∧ p j ∧ (∀ m, i ≤ m → m < j → ¬ p m) ∧ L k i = some (b j)) ∨ (∀ j, i ≤ j → j < n → ¬ p j) ∧ L k i = some r
  | 0, i, hi, hk => by omega
  | k + 1, i, hi, hk => by
    by_cases h : i < n
    · by_cases hp : p i
      · exact .inl ⟨i, Nat.le_refl _, h, hp, fun m h1 h2 => by omega, hb k i h hp⟩
      · rw [hs k i h hp]
        rcases for_find n L p b r hs hb he k (i + 1) (by omega) (by omega) with ⟨j, h1, h2, h3, h4, h5⟩ | ⟨h1, h2⟩
        · refine .inl ⟨j, by omega, h2, h3, fun m hm1 hm2 => ?_, h5⟩
          by_cases e : m = i
          · subst e; exact hp
          · exact h4 m (by omega) hm2
        · refine .inr ⟨fun j hj1 hj2 => ?_, h2⟩
          by_cases e : j = i
          · subst e; exact hp
          · exact h1 j (by omega) hj2
    · have : i = n := by omega
      subst this; exact .inr ⟨fun j h1 h2 => by omega, he k⟩
/-- The same for a Bool: do all places pass? -/
theorem for_all {n : Nat} {L : Nat → Nat → Option Bool} (p : Nat → Prop) (hs : ∀ k i, i < n → p i → L (k + 1) i = L k (i + 1)) (hb : ∀ k i, i < n → ¬ p i → L (k + 1) i = some false) (c : Bool) (he : ∀ k, L (k + 1) n = some c) {q : Bool}
    (hq : q = true ↔ (∀ j, j < n → p j) ∧ c = true) (k : Nat) (hk : n < k) : L k 0 = some q := by
  rcases for_find n L (fun i => ¬ p i) (fun _ => false) c (fun k i h hp => hs k i h (Classical.not_not.1 hp)) (fun k i h hp => hb k i h hp) he k 0 (Nat.zero_le _) (by omega) with ⟨j, _, h2, h3, _, h5⟩ | ⟨h1, h2⟩
  · rw [h5]; congr 1; symm
    rw [Bool.eq_false_iff]; intro hh; exact h3 ((hq.1 hh).1 j h2)
  · rw [h2]; congr 1
    have : ∀ j, j < n → p j := fun j hj => Classical.not_not.1 (h1 j (Nat.zero_le _) hj)
    rw [Bool.eq_iff_iff, hq]; exact ⟨fun h => ⟨this, h⟩, fun h => h.2⟩
/-- What is written, place by place. -/
theorem set_step {α : Type} (a b : List α) (i : Nat) (hi : i < a.length) (hb : b.length = a.length) : (a.take i ++ b.drop i).set i (a[i]'hi) = a.take (i + 1) ++ b.drop (i + 1) := by
  rw [List.set_append_right _ _ (by simp; omega), List.length_take, Nat.min_eq_left (by omega), Nat.sub_self, List.take_succ_eq_append_getElem hi, List.append_assoc]
  congr 1
  rw [List.drop_eq_getElem_cons (by omega)]
  rfl
theorem snoc_step {α : Type} (a : List α) (i : Nat) (hi : i < a.length) : a.take i ++ [a[i]'hi] = a.take (i + 1) := by
  rw [List.take_succ_eq_append_getElem hi]
theorem eq_iff_all (a b : List Int) (h : a.length = b.length) : a = b ↔ ∀ j, j < a.length → rd a (j : Int) = rd b (j : Int) := by
  constructor
  · rintro rfl j _; rfl
  · intro hh; refine List.ext_getElem h (fun j h1 h2 => ?_)
    have := hh j h1
    rwa [rd_nat a j h1, rd_nat b j h2] at this
/-- What marks hold: s, s + 1, .. -/
def iota (s : Int) (n : Nat) : List Int := (List.range n).map fun (i : Nat) => s + (i : Int)
theorem iota_length (s : Int) (n : Nat) : (iota s n).length = n := by simp [iota]
theorem iota_get (s : Int) (n i : Nat) (h : i < n) : (iota s n)[i]'(by rw [iota_length]; exact h) = s + i := by simp [iota]
/-- The same as bytes. -/
def iota8 (s : Int) (n : Nat) : List Int := (List.range n).map fun (i : Nat) => (s + (i : Int)) % 256
theorem iota8_length (s : Int) (n : Nat) : (iota8 s n).length = n := by simp [iota8]
theorem iota8_get (s : Int) (n i : Nat) (h : i < n) : (iota8 s n)[i]'(by rw [iota8_length]; exact h) = (s + i) % 256 := by simp [iota8]
theorem wraps_i64 (n : Int) (h0 : 0 ≤ n) (h1 : n < 2 ^ 62) : IntKind.i64.wrap n = n := by rw [IntKind.wrap_i64]; omega
theorem and255 (x : Int) (h0 : 0 ≤ x) (h : x ≤ 65535) : Go.bits .and .i64 x 255 = x % 256 := bits_mask .i64 62 (by decide) wraps_i64 8 (by decide) x h0 (by omega)
/-- Does a search find something. -/
theorem idx_any {n : Nat} (L : Nat → Nat → Option Int) (q : Nat → Bool) (hs : ∀ k i, i < n → q i = false → L (k + 1) i = L k (i + 1)) (hb : ∀ k i, i < n → q i = true → L (k + 1) i = some (i : Int)) (he : ∀ k, L (k + 1) n = some (-1)) (r : Bool)
    (hr : r = true ↔ ∃ j, j < n ∧ q j = true) (k : Nat) (hk : n < k) : ∃ v, L k 0 = some v ∧ decide (v ≥ 0) = r := by
  rcases for_find n L (fun i => q i = true) (fun i => (i : Int)) (-1) (fun k i h hp => hs k i h (by simpa using hp)) hb he k 0 (Nat.zero_le _) (by omega) with ⟨j, _, h2, h3, _, h5⟩ | ⟨h1, h2⟩
  · refine ⟨_, h5, ?_⟩
    rw [decide_eq_true (by omega : (j : Int) ≥ 0)]; exact (hr.2 ⟨j, h2, h3⟩).symm
  · refine ⟨_, h2, ?_⟩
    rw [decide_eq_false (by omega : ¬ (-1 : Int) ≥ 0)]; symm; rw [Bool.eq_false_iff]; intro hh
    obtain ⟨j, hj, hq⟩ := hr.1 hh
    exact h1 j (Nat.zero_le _) hj hq
/-- A count that goes down, item by item, and stops below nothing. -/
theorem sz_loop {n C : Nat} {M : Int} (L : Nat → Nat → Int → Option Int) (P : Nat → Prop) (hs : ∀ k i a, i < n → C ≤ k → 0 ≤ a → a ≤ M → (∃ r, r < 0 ∧ L (k + 1) i a = some r) ∨ ∃ t, 0 ≤ t ∧ t ≤ a ∧ P i ∧ L (k + 1) i a = L k (i + 1) t)
    (he : ∀ k a, L (k + 1) n a = some a) : ∀ (m i : Nat) (a : Int), i ≤ n → n < i + m → 0 ≤ a → a ≤ M → ∃ r, L (m + C) i a = some r ∧ r ≤ a ∧ (0 ≤ r → ∀ j, i ≤ j → j < n → P j)
  | 0, i, a, hi, hm, _, _ => by omega
  | m + 1, i, a, hi, hm, h0, h1 => by
    rw [show m + 1 + C = (m + C) + 1 by omega]
    by_cases h : i < n
    · rcases hs (m + C) i a h (by omega) h0 h1 with ⟨r, hr, e⟩ | ⟨t, ht0, ht, hp, e⟩
      · exact ⟨r, e, by omega, fun h => by omega⟩
      · obtain ⟨r, e2, hr, hq⟩ := sz_loop L P hs he m (i + 1) t (by omega) (by omega) ht0 (by omega)
        refine ⟨r, by rw [e, e2], by omega, fun h0 j hj1 hj2 => ?_⟩
        by_cases c : j = i
        · subst c; exact hp
        · exact hq h0 j (by omega) hj2
    · have : i = n := by omega
      subst this
      exact ⟨a, he _ _, Int.le_refl _, fun _ j h1 h2 => by omega⟩
/-- A list made place by place. -/
theorem to_loop {α : Type} {C : Nat} (v z : List α) (hz : z.length = v.length) (L : Nat → Nat → List α → Option (List α)) (hs : ∀ k i s (hi : i < v.length), C ≤ k → s.length = v.length → L (k + 1) i s = L k (i + 1) (s.set i (v[i]'hi)))
    (he : ∀ k s, L (k + 1) v.length s = some s) (k : Nat) (hk : v.length + C < k) : L k 0 z = some v := by
  have h := for_st v.length (fun k' i (s : List α) => L (k' + C) i s) (fun i => v.take i ++ z.drop i) v ?_ ?_ (k - C) 0 (Nat.zero_le _) (by omega)
  · rw [show k - C + C = k by omega] at h; simpa using h
  · intro k' i hi
    rw [show k' + 1 + C = (k' + C) + 1 by omega, hs _ _ _ hi (by omega) (by simp; omega), set_step _ _ _ hi hz]
  · intro k'
    rw [show k' + 1 + C = (k' + C) + 1 by omega, he, List.take_of_length_le (Nat.le_refl _), List.drop_of_length_le (by omega), List.append_nil]
/-- Equal, place by place. -/
theorem same_loop {n C : Nat} (L : Nat → Nat → Option Bool) (hs : ∀ k i, i < n → C ≤ k → L (k + 1) i = L k (i + 1)) (he : ∀ k, L (k + 1) n = some true) (k : Nat) (hk : n + C < k) : L k 0 = some true := by
  have h := for_st n (fun k' i (_ : Unit) => L (k' + C) i) (fun _ => ()) true ?_ ?_ (k - C) 0 (Nat.zero_le _) (by omega)
  · rw [show k - C + C = k by omega] at h; exact h
  · intro k' i hi; rw [show k' + 1 + C = (k' + C) + 1 by omega, hs _ _ hi (by omega)]
  · intro k'; rw [show k' + 1 + C = (k' + C) + 1 by omega, he]
def wordsB (l : List Int) (n : Int) : Bool := decide ((l.length : Int) = n) && l.all (fun x => decide (0 ≤ x ∧ x ≤ 65535))
theorem wordsB_mem {l : List Int} {n : Int} (h : wordsB l n = true) (x : Int) (hx : x ∈ l) : 0 ≤ x ∧ x ≤ 65535 := by
  unfold wordsB at h; rw [Bool.and_eq_true, List.all_eq_true] at h; exact of_decide_eq_true (h.2 x hx)
/-- Is it a hart: four words, a cell, a state. -/
def hartB (regs : List Int) (pc st : Int) : Bool := wordsB regs 4 && (decide (0 ≤ pc ∧ pc ≤ 23) && decide (0 ≤ st ∧ st ≤ 2))
theorem ite_some' (b c : Bool) : (if b = true then some c else some false) = some (b && c) := by cases b <;> rfl
theorem hartB_len {r : List Int} {p s : Int} (h : hartB r p s = true) : r.length = 4 := by
  unfold hartB wordsB at h; rw [Bool.and_eq_true, Bool.and_eq_true] at h; have := of_decide_eq_true h.1.1; omega
theorem wordsB_24 {l : List Int} (h : wordsB l 24 = true) : l.length = 24 := by unfold wordsB at h; rw [Bool.and_eq_true] at h; have := of_decide_eq_true h.1; omega
theorem tmod_pos (n c : Int) (h : 0 ≤ n) : Int.tmod n c = n % c := Int.tmod_eq_emod_of_nonneg h
theorem tmod_neg (n c : Int) (h : n < 0) : Int.tmod n c = -((-n) % c) := by
  rw [← Int.tmod_eq_emod_of_nonneg (by omega : 0 ≤ -n), Int.neg_tmod, Int.neg_neg]
theorem tdiv_pos (n c : Int) (h : 0 ≤ n) : Int.tdiv n c = n / c := Int.tdiv_eq_ediv_of_nonneg h
/-- A remainder brought up from below nothing. -/
theorem tmod_up (n c : Int) (hc : 0 < c) (hb : c ≤ 4294967296) : Int.tmod (Int.tmod n c + c) c = n % c := by
  have h1 := Int.emod_nonneg n (by omega : c ≠ 0)
  have h2 := Int.emod_lt_of_pos n hc
  rcases Int.lt_or_le n 0 with h | h
  · rw [tmod_neg n c h]
    have h3 := Int.emod_nonneg (-n) (by omega : c ≠ 0)
    have h4 := Int.emod_lt_of_pos (-n) hc
    rw [tmod_pos _ _ (by omega), Int.add_emod_right, ← Int.sub_emod_right]
    have := Int.emod_add_mul_ediv (-n) c
    have e : -(-n % c) - c = n + c * ((-n) / c - 1) := by
      have : n = -(-n % c) - c * ((-n) / c) := by omega
      rw [Int.mul_sub]; omega
    rw [e, Int.add_mul_emod_self_left]
  · rw [tmod_pos n c h, tmod_pos _ _ (by omega), Int.add_emod_right, Int.emod_emod_of_dvd _ (Int.dvd_refl c)]
theorem tmod_bd (n c : Int) (hc : 0 < c) : -c < Int.tmod n c ∧ Int.tmod n c < c := by
  rcases Int.lt_or_le n 0 with h | h
  · rw [tmod_neg n c h]
    have h3 := Int.emod_nonneg (-n) (by omega : c ≠ 0)
    have h4 := Int.emod_lt_of_pos (-n) hc
    omega
  · rw [tmod_pos n c h]
    have h3 := Int.emod_nonneg n (by omega : c ≠ 0)
    have h4 := Int.emod_lt_of_pos n hc
    omega
/-- for_st, where some rounds stay over. -/
theorem for_stC {σ ρ : Type} (C n : Nat) (L : Nat → Nat → σ → Option ρ) (st : Nat → σ) (r : ρ) (hs : ∀ k i, C ≤ k → i < n → L (k + 1) i (st i) = L k (i + 1) (st (i + 1))) (he : ∀ k, C ≤ k → L (k + 1) n (st n) = some r) :
    ∀ (k i : Nat), i ≤ n → n + C < i + k → L k i (st i) = some r
  | 0, i, hi, hk => by omega
  | k + 1, i, hi, hk => by
    by_cases h : i < n
    · rw [hs k i (by omega) h]; exact for_stC C n L st r hs he k (i + 1) (by omega) (by omega)
    · have : i = n := by omega
      subst this; exact he k (by omega)
theorem eqIntS_eq (a b : List Int) (hl : a.length ≤ 1048576) (k : Nat) (hk : a.length < k) : laws_eqIntS.f k a b = some (decide (a = b)) := by
  unfold laws_eqIntS.f
  by_cases h : a.length = b.length
  · rw [if_pos (by omega)]
    refine for_all (L := fun k i => laws_eqIntS.l0 k a b (i : Int)) (n := a.length) (fun j => rd a (j : Int) = rd b (j : Int)) ?_ ?_ true ?_ ?_ k hk
    · intro k i hi hp
      simp only [laws_eqIntS.l0]
      rw [if_pos (by omega), if_pos (by omega), if_pos (by omega), if_pos hp, wrap_succ (by omega)]
    · intro k i hi hp
      simp only [laws_eqIntS.l0]
      rw [if_pos (by omega), if_pos (by omega), if_pos (by omega), if_neg hp]
    · intro k
      simp only [laws_eqIntS.l0]
      rw [if_neg (by omega)]
    · rw [decide_eq_true_iff, eq_iff_all a b h]; simp
  · rw [if_neg (by omega)]
    have : a ≠ b := fun hh => h (by rw [hh])
    simp [this]
theorem markIntS_eq (l : List Int) (s : Int) (h0 : 0 ≤ s) (h1 : s ≤ 1152921504606846976) (hl : l.length ≤ 2097152) (k : Nat) (hk : l.length < k) : laws_markIntS.f k l s = some (s + l.length, iota s l.length) := by
  unfold laws_markIntS.f
  have h := for_st l.length (fun k i (t : List Int × Int) => laws_markIntS.l0 k t.1 t.2 (i : Int)) (fun i => ((iota s l.length).take i ++ l.drop i, s + (i : Int))) (s + l.length, iota s l.length) ?_ ?_ k 0 (Nat.zero_le _) (by omega)
  · simpa using h
  · intro k i hi
    simp only [laws_markIntS.l0]
    rw [if_pos (by simp [iota_length]; omega), if_pos (by omega), wrap_succ (by omega), wrap_small (by omega) (by omega)]
    simp only [Int.toNat_natCast]
    rw [← iota_get s l.length i hi, set_step _ _ _ (by rw [iota_length]; exact hi) (by rw [iota_length])]
    congr 1
    rw [iota_get s l.length i hi]; omega
  · intro k
    simp only [laws_markIntS.l0]
    rw [if_neg (by simp [iota_length])]
    simp [List.take_of_length_le, iota_length]
theorem heldIntS_eq (s : Int) (n : Nat) (h0 : 0 ≤ s) (h1 : s ≤ 1152921504606846976) (hl : n ≤ 2097152) (k : Nat) (hk : n < k) : laws_heldIntS.f k (iota s n) s = some (s + n) := by
  unfold laws_heldIntS.f
  have h := for_st n (fun k i (t : Int) => laws_heldIntS.l0 k (iota s n) t (i : Int)) (fun i => s + (i : Int)) (s + n) ?_ ?_ k 0 (Nat.zero_le _) (by omega)
  · simpa using h
  · intro k i hi
    simp only [laws_heldIntS.l0]
    rw [if_pos (by simp [iota_length]; omega), if_pos (by omega), rd_nat _ _ (by rw [iota_length]; exact hi), if_pos (iota_get s n i hi), wrap_succ (by omega), wrap_small (by omega) (by omega)]
    congr 1; omega
  · intro k
    simp only [laws_heldIntS.l0]
    rw [if_neg (by simp [iota_length])]
theorem l1In_eq (x lo hi : Int) : spec_l1In.f x lo hi = some (decide (lo ≤ x ∧ x ≤ hi)) := by
  unfold spec_l1In.f
  by_cases h : x ≥ lo
  · rw [if_pos h]; have h' : lo ≤ x := h; simp [h']
  · rw [if_neg h]; have h' : ¬ lo ≤ x := h; simp [h']
theorem from_eq (x lo hi : Int) : impl_from.f x lo hi = some (decide (lo ≤ x ∧ x ≤ hi)) := by
  unfold impl_from.f
  by_cases h : x ≥ lo
  · rw [if_pos h]; have h' : lo ≤ x := h; simp [h']
  · rw [if_neg h]; have h' : ¬ lo ≤ x := h; simp [h']
theorem insOkB_bounds {o r a b n : Int} (h : insOkB o r a b n = true) : 1 ≤ o ∧ o ≤ 10 ∧ 0 ≤ r ∧ r ≤ 3 ∧ 0 ≤ a ∧ a ≤ 3 ∧ 0 ≤ b ∧ b ≤ 3 ∧ 0 ≤ n ∧ n ≤ 63 := by
  unfold insOkB at h
  simp only [Bool.and_eq_true, decide_eq_true_eq] at h
  obtain ⟨h0, ⟨h1, h1'⟩, ⟨h2, h2'⟩, ⟨h3, h3'⟩, ⟨h4, h4'⟩⟩ := h
  refine ⟨?_, ?_, h1, h1', h2, h2', h3, h3', h4, h4'⟩
  · by_cases c : 1 ≤ o
    · exact c
    · exfalso
      rw [if_neg (by omega), if_neg (by omega), if_neg (by omega), if_neg (by omega), if_neg (by omega), if_neg (by omega), if_neg (by omega), if_neg (by omega), if_neg (by omega), if_neg (by omega)] at h0
      cases h0
  · by_cases c : o ≤ 10
    · exact c
    · exfalso
      rw [if_neg (by omega), if_neg (by omega), if_neg (by omega), if_neg (by omega), if_neg (by omega), if_neg (by omega), if_neg (by omega), if_neg (by omega), if_neg (by omega), if_neg (by omega)] at h0
      cases h0
theorem ite_some (b c : Bool) : (if b = true then some c else some false) = some (b && c) := by cases b <;> rfl
theorem l8Field_eq (x m : Int) (h : Bool) : spec_l8Field.f x m h = some (decide (0 ≤ x ∧ x ≤ m) && (h || decide (x = 0))) := by
  unfold spec_l8Field.f
  rw [l1In_eq, Option.bind_some]
  have e : (x == 0) = decide (x = 0) := rfl
  rw [e]
  cases h <;> simp only [if_true, Bool.false_eq_true, if_false, Bool.true_or, Bool.false_or, ite_some]
theorem specInsOk_eq (o r a b n : Int) : spec_InsOk.f o r a b n = some (insOkB o r a b n) := by
  unfold spec_InsOk.f spec_l8Has.f
  simp only [l1In_eq, l8Field_eq, Option.bind_some, ite_some]
  by_cases ho : 1 ≤ o ∧ o ≤ 10
  · have hc : o = 1 ∨ o = 2 ∨ o = 3 ∨ o = 4 ∨ o = 5 ∨ o = 6 ∨ o = 7 ∨ o = 8 ∨ o = 9 ∨ o = 10 := by omega
    rw [decide_eq_true ho]
    rcases hc with rfl | rfl | rfl | rfl | rfl | rfl | rfl | rfl | rfl | rfl <;>
      (simp only [if_true, Option.bind_some, List.length_cons, List.length_nil]
       rw [if_pos (by omega), if_pos (by omega)]
       simp only [rd, Option.bind_some, Bool.true_and]
       congr 1
       rw [Bool.eq_iff_iff]
       simp [insOkB, show Go.bits .and .i64 0 1 = 0 by decide, show Go.bits .and .i64 0 2 = 0 by decide, show Go.bits .and .i64 0 4 = 0 by decide, show Go.bits .and .i64 0 8 = 0 by decide,
        show Go.bits .and .i64 7 1 = 1 by decide, show Go.bits .and .i64 7 2 = 2 by decide, show Go.bits .and .i64 7 4 = 4 by decide, show Go.bits .and .i64 7 8 = 0 by decide,
        show Go.bits .and .i64 8 1 = 0 by decide, show Go.bits .and .i64 8 2 = 0 by decide, show Go.bits .and .i64 8 4 = 0 by decide, show Go.bits .and .i64 8 8 = 8 by decide,
        show Go.bits .and .i64 9 1 = 1 by decide, show Go.bits .and .i64 9 2 = 0 by decide, show Go.bits .and .i64 9 4 = 0 by decide, show Go.bits .and .i64 9 8 = 8 by decide,
        show Go.bits .and .i64 10 1 = 0 by decide, show Go.bits .and .i64 10 2 = 2 by decide, show Go.bits .and .i64 10 4 = 0 by decide, show Go.bits .and .i64 10 8 = 8 by decide,
        show Go.bits .and .i64 11 1 = 1 by decide, show Go.bits .and .i64 11 2 = 2 by decide, show Go.bits .and .i64 11 4 = 0 by decide, show Go.bits .and .i64 11 8 = 8 by decide,
        show Go.bits .and .i64 14 1 = 0 by decide, show Go.bits .and .i64 14 2 = 2 by decide, show Go.bits .and .i64 14 4 = 4 by decide, show Go.bits .and .i64 14 8 = 8 by decide,
        show Go.bits .and .i64 15 1 = 1 by decide, show Go.bits .and .i64 15 2 = 2 by decide, show Go.bits .and .i64 15 4 = 4 by decide, show Go.bits .and .i64 15 8 = 8 by decide]
       try omega)
  · have hn : ∀ c, 1 ≤ c → c ≤ 10 → o ≠ c := fun c h1 h2 e => ho (by omega)
    simp [ho, insOkB, hn]
/-- The word of an Ins. -/
def codeW (o r a b n : Int) : Int := if insOkB o r a b n = true then o + 16 * r + 64 * a + 256 * b + 1024 * n else 0
theorem implCode_eq (o r a b n : Int) : impl_Code.f o r a b n = some (codeW o r a b n, insOkB o r a b n) := by
  unfold impl_Code.f impl_InsOk.f codeW
  rw [Option.bind_some]
  by_cases h : insOkB o r a b n = true
  · have hb := insOkB_bounds h
    rw [if_pos h, if_pos h, h]
    congr 2
    simp only [wrap_small (x := 16 * r) (by omega) (by omega), wrap_small (x := 64 * a) (by omega) (by omega), wrap_small (x := 256 * b) (by omega) (by omega), wrap_small (x := 1024 * n) (by omega) (by omega), wrap_small (x := o + 16 * r) (by omega) (by omega), wrap_small (x := o + 16 * r + 64 * a) (by omega) (by omega), wrap_small (x := o + 16 * r + 64 * a + 256 * b) (by omega) (by omega), wrap_small (x := o + 16 * r + 64 * a + 256 * b + 1024 * n) (by omega) (by omega)]
  · have h' : insOkB o r a b n = false := by simpa using h
    rw [if_neg h, if_neg h, h']
theorem specCode_eq (o r a b n : Int) : spec_Code.f o r a b n = some (codeW o r a b n, insOkB o r a b n) := by
  rw [← implCode_eq]; unfold spec_Code.f impl_Code.f
  rw [specInsOk_eq]; rfl
theorem szInsS_ex (l : List S153) (hm : l.length ≤ maxLen) (a : Int) (h0 : 0 ≤ a) (h1 : a ≤ 1048576) : ∃ r, laws_szInsS.f l a = some r ∧ r ≤ a ∧ (0 ≤ r → l.length ≤ 1048576) := by
  unfold laws_szInsS.f
  have e : wrap64 (a - (l.length : Int)) = a - (l.length : Int) := by unfold maxLen at hm; unfold wrap64; omega
  rw [e]
  by_cases h : a - (l.length : Int) < 0
  · rw [if_pos h]; exact ⟨_, rfl, by omega, fun h => by omega⟩
  · rw [if_neg h]; exact ⟨_, rfl, by omega, fun _ => by omega⟩
theorem rdLRef (l : List S150) (i : Nat) (h : i < l.length) : rd_T150 l (i : Int) = l[i] := by
  unfold rd_T150; simp [List.getD, h]
theorem szRefS_ex (l : List S150) (hm : l.length ≤ maxLen) (hx : ∀ x ∈ l, x.f1.size ≤ maxLen) (a : Int) (h0 : 0 ≤ a) (h1 : a ≤ 1048576) (k : Nat) (hk : 1048580 < k) : ∃ r, laws_szRefS.f k l a = some r ∧ r ≤ a ∧ (0 ≤ r → l.length ≤ 1048576 ∧ ∀ y ∈ l, y.f1.size ≤ 1048576) := by
  unfold laws_szRefS.f
  have e : wrap64 (a - (l.length : Int)) = a - (l.length : Int) := by unfold maxLen at hm; unfold wrap64; omega
  rw [e]
  by_cases h : a - (l.length : Int) < 0
  · rw [if_pos h]; exact ⟨_, rfl, by omega, fun h => by omega⟩
  · rw [if_neg h]
    have H := sz_loop (n := l.length) (C := 0) (M := 1048576) (fun k i a => laws_szRefS.l0 k l a (i : Int)) (fun i => ∀ x, l[i]? = some x → x.f1.size ≤ 1048576) ?_ ?_ k 0 (a - (l.length : Int)) (Nat.zero_le _) (by omega) (by omega) (by omega)
    · obtain ⟨r, e, hr, hp⟩ := H
      refine ⟨r, e, by omega, fun h => ⟨by omega, fun x hx => ?_⟩⟩
      obtain ⟨j, hj, rfl⟩ := List.getElem_of_mem hx
      exact hp h j (Nat.zero_le _) hj _ (List.getElem?_eq_getElem hj)
    · intro k i a hi _ h0 h1
      have hs := hx _ (List.getElem_mem hi)
      have ew : wrap64 (a - ((l[i]).f1.size : Int)) = a - ((l[i]).f1.size : Int) := by unfold maxLen at hs; unfold wrap64; omega
      simp only [laws_szRefS.l0, laws_szRef.f]
      rw [if_pos (by omega), if_pos (by omega), rdLRef l i hi, ew]
      by_cases hh : a - ((l[i]).f1.size : Int) < 0
      · rw [if_pos hh, Option.bind_some, if_pos (by omega)]; exact .inl ⟨_, by omega, rfl⟩
      · rw [if_neg hh, Option.bind_some, if_neg hh, wrap_succ (by omega)]; exact .inr ⟨_, by omega, by omega, fun x hx' => by rw [List.getElem?_eq_getElem hi] at hx'; rw [← Option.some.inj hx']; omega, rfl⟩
    · intro k a
      simp only [laws_szRefS.l0]
      rw [if_neg (by omega)]
/-- A part as it may come in. -/
def partIn (n : ByteArray) (l : List S153) (r : List S150) : Prop := n.size ≤ maxLen ∧ l.length ≤ maxLen ∧ r.length ≤ maxLen ∧ ∀ y ∈ r, y.f1.size ≤ maxLen
def partLens (n : ByteArray) (l : List S153) (r : List S150) : Prop := n.size ≤ 1048576 ∧ l.length ≤ 1048576 ∧ r.length ≤ 1048576 ∧ ∀ y ∈ r, y.f1.size ≤ 1048576
theorem szPart_ex (n : ByteArray) (l : List S153) (r : List S150) (hx : partIn n l r) (a : Int) (h0 : 0 ≤ a) (h1 : a ≤ 1048576) (k : Nat) (hk : 1048580 < k) : ∃ q, laws_szPart.f k n l r a = some q ∧ q ≤ a ∧ (0 ≤ q → partLens n l r) := by
  obtain ⟨hs, hl, hr, hy⟩ := hx
  unfold laws_szPart.f
  have e : wrap64 (a - (n.size : Int)) = a - (n.size : Int) := by unfold maxLen at hs; unfold wrap64; omega
  rw [e]
  by_cases h : a - (n.size : Int) < 0
  · rw [if_pos h]; exact ⟨_, rfl, by omega, fun h => by omega⟩
  · rw [if_neg h]
    obtain ⟨r1, e1, q1, p1⟩ := szInsS_ex l hl (a - (n.size : Int)) (by omega) (by omega)
    rw [e1, Option.bind_some]
    by_cases h2 : r1 < 0
    · rw [if_pos h2]; exact ⟨_, rfl, by omega, fun h => by omega⟩
    · rw [if_neg h2]
      obtain ⟨r2, e2, q2, p2⟩ := szRefS_ex r hr hy r1 (by omega) (by omega) k hk
      rw [e2, Option.bind_some]
      by_cases h3 : r2 < 0
      · rw [if_pos h3]; exact ⟨_, rfl, by omega, fun h => by omega⟩
      · rw [if_neg h3]; exact ⟨_, rfl, by omega, fun h => ⟨by omega, p1 (by omega), (p2 (by omega)).1, (p2 (by omega)).2⟩⟩
theorem rdLPart (l : List S102) (i : Nat) (h : i < l.length) : rd_T102 l (i : Int) = l[i] := by
  unfold rd_T102; simp [List.getD, h]
theorem szPartS_ex (l : List S102) (hm : l.length ≤ maxLen) (hx : ∀ x ∈ l, partIn x.f0 x.f1 x.f2) (a : Int) (h0 : 0 ≤ a) (h1 : a ≤ 1048576) (k : Nat) (hk : 3000000 < k) : ∃ r, laws_szPartS.f k l a = some r ∧ r ≤ a ∧ (0 ≤ r → l.length ≤ 1048576 ∧ ∀ x ∈ l, partLens x.f0 x.f1 x.f2) := by
  unfold laws_szPartS.f
  have e : wrap64 (a - (l.length : Int)) = a - (l.length : Int) := by unfold maxLen at hm; unfold wrap64; omega
  rw [e]
  by_cases h : a - (l.length : Int) < 0
  · rw [if_pos h]; exact ⟨_, rfl, by omega, fun h => by omega⟩
  · rw [if_neg h]
    have H := sz_loop (n := l.length) (C := 1048581) (M := 1048576) (fun k i a => laws_szPartS.l0 k l a (i : Int)) (fun i => ∀ x, l[i]? = some x → partLens x.f0 x.f1 x.f2) ?_ ?_ (k - 1048581) 0 (a - (l.length : Int)) (Nat.zero_le _) (by omega) (by omega) (by omega)
    · obtain ⟨r, e, hr, hp⟩ := H
      rw [show k - 1048581 + 1048581 = k by omega] at e
      refine ⟨r, e, by omega, fun h => ⟨by omega, fun x hx => ?_⟩⟩
      obtain ⟨j, hj, rfl⟩ := List.getElem_of_mem hx
      exact hp h j (Nat.zero_le _) hj _ (List.getElem?_eq_getElem hj)
    · intro k i a hi hk h0 h1
      obtain ⟨r1, e1, q1, p1⟩ := szPart_ex _ _ _ (hx _ (List.getElem_mem hi)) a h0 h1 k (by omega)
      simp only [laws_szPartS.l0]
      rw [if_pos (by omega), if_pos (by omega), rdLPart l i hi, e1, Option.bind_some]
      by_cases hh : r1 < 0
      · rw [if_pos hh]; exact .inl ⟨_, by omega, rfl⟩
      · rw [if_neg hh, wrap_succ (by omega)]
        exact .inr ⟨r1, by omega, q1, fun x hx' => by rw [List.getElem?_eq_getElem hi] at hx'; rw [← Option.some.inj hx']; exact p1 (by omega), rfl⟩
    · intro k a
      simp only [laws_szPartS.l0]
      rw [if_neg (by omega)]
def toInsV (x : S153) : S115 := ⟨x.f0, x.f1, x.f2, x.f3, x.f4⟩
theorem rdLIns (l : List S153) (i : Nat) (h : i < l.length) : rd_T153 l (i : Int) = l[i] := by
  unfold rd_T153; simp [List.getD, h]
theorem toInsS_eq (l : List S153) (hl : l.length ≤ 1048576) (k : Nat) (hk : 1048580 < k) : laws_toInsS.f k l = some (l.map toInsV) := by
  unfold laws_toInsS.f
  rw [if_pos (by omega), if_pos (by simp; omega)]
  refine to_loop (C := 0) (l.map toInsV) _ (by simp) (fun k i s => laws_toInsS.l0 k l s (i : Int)) ?_ ?_ k (by simp; omega)
  · intro k i s hi _ hsl
    have hi' : i < l.length := by simpa using hi
    simp only [laws_toInsS.l0]
    rw [if_pos (by omega), if_pos (by omega), rdLIns l i hi', laws_toIns.f, Option.bind_some, if_pos (by simp at hsl; omega), wrap_succ (by omega), Int.toNat_natCast]
    simp [toInsV]
  · intro k s
    simp only [laws_toInsS.l0]
    rw [if_neg (by simp)]
def toRefV (x : S150) : S118 := ⟨x.f0, x.f1⟩
theorem rdLRef' (l : List S150) (i : Nat) (h : i < l.length) : rd_T150 l (i : Int) = l[i] := by
  unfold rd_T150; simp [List.getD, h]
theorem toRefS_eq (l : List S150) (hl : l.length ≤ 1048576) (k : Nat) (hk : 1048580 < k) : laws_toRefS.f k l = some (l.map toRefV) := by
  unfold laws_toRefS.f
  rw [if_pos (by omega), if_pos (by simp; omega)]
  refine to_loop (C := 0) (l.map toRefV) _ (by simp) (fun k i s => laws_toRefS.l0 k l s (i : Int)) ?_ ?_ k (by simp; omega)
  · intro k i s hi _ hsl
    have hi' : i < l.length := by simpa using hi
    simp only [laws_toRefS.l0]
    rw [if_pos (by omega), if_pos (by omega), rdLRef' l i hi', laws_toRef.f, Option.bind_some, if_pos (by simp at hsl; omega), wrap_succ (by omega), Int.toNat_natCast]
    simp [toRefV]
  · intro k s
    simp only [laws_toRefS.l0]
    rw [if_neg (by simp)]
theorem toPart_eq (n : ByteArray) (l : List S153) (r : List S150) (hx : partLens n l r) (k : Nat) (hk : 1048580 < k) : laws_toPart.f k n l r = some (n, l.map toInsV, r.map toRefV) := by
  unfold laws_toPart.f
  rw [toInsS_eq _ hx.2.1 k hk, Option.bind_some, toRefS_eq _ hx.2.2.1 k hk, Option.bind_some]
def toPartV (x : S102) : S107 := ⟨x.f0, x.f1.map toInsV, x.f2.map toRefV⟩
theorem toPartS_eq (l : List S102) (hl : l.length ≤ 1048576) (hx : ∀ x ∈ l, partLens x.f0 x.f1 x.f2) (k : Nat) (hk : 3000000 < k) : laws_toPartS.f k l = some (l.map toPartV) := by
  unfold laws_toPartS.f
  rw [if_pos (by omega), if_pos (by simp; omega)]
  refine to_loop (C := 1048581) (l.map toPartV) _ (by simp) (fun k i s => laws_toPartS.l0 k l s (i : Int)) ?_ ?_ k (by simp; omega)
  · intro k i s hi hC hsl
    have hi' : i < l.length := by simpa using hi
    simp only [laws_toPartS.l0]
    rw [if_pos (by omega), if_pos (by omega), rdLPart l i hi', toPart_eq _ _ _ (hx _ (List.getElem_mem hi')) k (by omega), Option.bind_some, if_pos (by simp at hsl; omega), wrap_succ (by omega), Int.toNat_natCast]
    simp [toPartV]
  · intro k s
    simp only [laws_toPartS.l0]
    rw [if_neg (by simp)]
theorem rdInsE (l : List S115) (i : Nat) (h : i < l.length) : rd_T115 l (i : Int) = l[i] := by
  unfold rd_T115; simp [List.getD, h]
theorem eqInsS_same (l : List S115) (hl : l.length ≤ 1048576) (k : Nat) (hk : 1048580 < k) : laws_eqInsS.f k l l = some true := by
  unfold laws_eqInsS.f
  rw [if_pos rfl]
  refine same_loop (C := 0) (n := l.length) (fun k i => laws_eqInsS.l0 k l l (i : Int)) ?_ ?_ k (by omega)
  · intro k i hi _
    simp only [laws_eqInsS.l0]
    rw [if_pos (by omega), if_pos (by omega), if_pos (by omega), laws_eqIns.f, if_pos rfl, if_pos rfl, if_pos rfl, if_pos rfl, if_pos rfl, Option.bind_some, if_pos rfl, wrap_succ (by omega)]
  · intro k
    simp only [laws_eqInsS.l0]
    rw [if_neg (by omega)]
theorem rdRefE (l : List S118) (i : Nat) (h : i < l.length) : rd_T118 l (i : Int) = l[i] := by
  unfold rd_T118; simp [List.getD, h]
theorem eqRefS_same (l : List S118) (hl : l.length ≤ 1048576) (k : Nat) (hk : 1048580 < k) : laws_eqRefS.f k l l = some true := by
  unfold laws_eqRefS.f
  rw [if_pos rfl]
  refine same_loop (C := 0) (n := l.length) (fun k i => laws_eqRefS.l0 k l l (i : Int)) ?_ ?_ k (by omega)
  · intro k i hi _
    simp only [laws_eqRefS.l0]
    rw [if_pos (by omega), if_pos (by omega), if_pos (by omega), laws_eqRef.f, if_pos rfl, if_pos rfl, Option.bind_some, if_pos rfl, wrap_succ (by omega)]
  · intro k
    simp only [laws_eqRefS.l0]
    rw [if_neg (by omega)]
theorem eqPart_same (n : ByteArray) (l : List S115) (r : List S118) (hl : l.length ≤ 1048576) (hr : r.length ≤ 1048576) (k : Nat) (hk : 1048580 < k) : laws_eqPart.f k n l r n l r = some true := by
  unfold laws_eqPart.f
  rw [if_pos rfl, eqInsS_same l hl k hk, Option.bind_some, if_pos rfl, eqRefS_same r hr k hk, Option.bind_some, if_pos rfl]
theorem rdPart (l : List S107) (i : Nat) (h : i < l.length) : rd_T107 l (i : Int) = l[i] := by
  unfold rd_T107; simp [List.getD, h]
theorem eqPartS_same (l : List S107) (hl : l.length ≤ 1048576) (hx : ∀ x ∈ l, x.f1.length ≤ 1048576 ∧ x.f2.length ≤ 1048576) (k : Nat) (hk : 3000000 < k) : laws_eqPartS.f k l l = some true := by
  unfold laws_eqPartS.f
  rw [if_pos rfl]
  refine same_loop (C := 1048581) (n := l.length) (fun k i => laws_eqPartS.l0 k l l (i : Int)) ?_ ?_ k (by omega)
  · intro k i hi hC
    simp only [laws_eqPartS.l0]
    have h := hx _ (List.getElem_mem hi)
    rw [if_pos (by omega), if_pos (by omega), if_pos (by omega), rdPart l i hi, eqPart_same _ _ _ h.1 h.2 k (by omega), Option.bind_some, if_pos rfl, wrap_succ (by omega)]
  · intro k
    simp only [laws_eqPartS.l0]
    rw [if_neg (by omega)]
theorem specPartAt_eq (l : List S107) (a : ByteArray) (hl : l.length ≤ 1048576) (k : Nat) (hk : l.length < k) : spec_PartAt.f k l a = some (partIdx a l 0) := by
  unfold spec_PartAt.f
  have h : ∀ k i : Nat, i ≤ l.length → l.length < i + k → spec_PartAt.l0 k l a (i : Int) = some (partIdx a (l.drop i) i) := by
    intro k
    induction k with
    | zero => intro i h1 h2; omega
    | succ k ih =>
      intro i h1 h2
      rw [spec_PartAt.l0]
      by_cases hi : i < l.length
      · rw [if_pos (by omega), if_pos (by omega), partIdx_drop a l i hi]
        by_cases hn : (rd_T107 l (i : Int)).f0.toList = a.toList
        · rw [if_pos hn, if_pos hn]
        · rw [if_neg hn, if_neg hn, wrap_succ (by omega)]; exact ih (i + 1) (by omega) (by omega)
      · rw [if_neg (by omega), List.drop_of_length_le (by omega)]; rfl
  exact h k 0 (Nat.zero_le _) (by omega)
/-- Is it a name: one to eight small letters. -/
def nameB (s : ByteArray) : Bool := (List.range s.size).all (fun j => decide (97 ≤ bt s (j : Int) ∧ bt s (j : Int) ≤ 122)) && decide (1 ≤ (s.size : Int) ∧ (s.size : Int) ≤ 8)
theorem nameB_iff (s : ByteArray) : nameB s = true ↔ (∀ j, j < s.size → 97 ≤ bt s (j : Int) ∧ bt s (j : Int) ≤ 122) ∧ decide (1 ≤ (s.size : Int) ∧ (s.size : Int) ≤ 8) = true := by
  unfold nameB; rw [Bool.and_eq_true, List.all_eq_true]
  constructor
  · rintro ⟨h1, h2⟩; exact ⟨fun j hj => of_decide_eq_true (h1 j (List.mem_range.2 hj)), h2⟩
  · rintro ⟨h1, h2⟩; exact ⟨fun j hj => decide_eq_true (h1 j (List.mem_range.1 hj)), h2⟩
theorem nameOk_eq (s : ByteArray) (hs : s.size ≤ 1048576) (k : Nat) (hk : 1048580 < k) : impl_nameOk.f k s = some (nameB s) := by
  unfold impl_nameOk.f
  refine for_all (L := fun k i => impl_nameOk.l0 k s (s.size : Int) (i : Int)) (n := s.size) (fun j => 97 ≤ bt s (j : Int) ∧ bt s (j : Int) ≤ 122) ?_ ?_ (decide (1 ≤ (s.size : Int) ∧ (s.size : Int) ≤ 8)) ?_ (nameB_iff s) k (by omega)
  · intro k i hi hp
    simp only [impl_nameOk.l0]
    rw [if_pos (by omega), if_pos (by omega), if_pos (by omega), if_neg (by omega), if_neg (by omega), wrap_succ (by omega)]
  · intro k i hi hp
    simp only [impl_nameOk.l0]
    rw [if_pos (by omega), if_pos (by omega), if_pos (by omega)]
    by_cases h : bt s (i : Int) < 97
    · rw [if_pos h]
    · rw [if_neg h, if_pos (by omega)]
  · intro k
    simp only [impl_nameOk.l0]
    rw [if_neg (by omega), from_eq, Option.bind_some]
theorem l27Name_eq (s : ByteArray) (hs : s.size ≤ 1048576) (k : Nat) (hk : 1048580 < k) : spec_l27Name.f k s = some (nameB s) := by
  unfold spec_l27Name.f
  refine for_all (L := fun k i => spec_l27Name.l0 k s (i : Int)) (n := s.size) (fun j => 97 ≤ bt s (j : Int) ∧ bt s (j : Int) ≤ 122) ?_ ?_ (decide (1 ≤ (s.size : Int) ∧ (s.size : Int) ≤ 8)) ?_ (nameB_iff s) k (by omega)
  · intro k i hi hp
    simp only [spec_l27Name.l0]
    rw [if_pos (by omega), if_pos (by omega), if_neg (by omega), if_neg (by omega), wrap_succ (by omega)]
  · intro k i hi hp
    simp only [spec_l27Name.l0]
    rw [if_pos (by omega), if_pos (by omega)]
    by_cases h : bt s (i : Int) < 97
    · rw [if_pos h]
    · rw [if_neg h, if_pos (by omega)]
  · intro k
    simp only [spec_l27Name.l0]
    rw [if_neg (by omega), l1In_eq, Option.bind_some]
theorem rdRef' (l : List S118) (i : Nat) (h : i < l.length) : rd_T118 l (i : Int) = l[i] := by
  unfold rd_T118; simp [List.getD, h]
theorem rdIns' (l : List S115) (i : Nat) (h : i < l.length) : rd_T115 l (i : Int) = l[i] := by
  unfold rd_T115; simp [List.getD, h]
theorem refIdx_first (a : Int) : ∀ (l : List S118) (s i : Nat) (hi : i < l.length), (l[i]).f0 = a → (decide (0 ≤ refIdx a (l.take i) s) = !decide (refIdx a l s = ((s + i : Nat) : Int)))
  | [], _, _, hi, _ => absurd hi (by simp)
  | x :: r, s, 0, _, hx => by
    have e : refIdx a (x :: r) s = (s : Int) := by rw [refIdx]; exact if_pos hx
    rw [List.take_zero, e, refIdx]; simp
  | x :: r, s, i + 1, hi, hx => by
    rw [List.take_succ_cons, refIdx, refIdx]
    by_cases h : x.f0 = a
    · rw [if_pos h, if_pos h, decide_eq_true (by omega), decide_eq_false (by omega)]; rfl
    · rw [if_neg h, if_neg h, refIdx_first a r (s + 1) i (by simpa using hi) (by simpa using hx), show s + 1 + i = s + (i + 1) by omega]
theorem l27Ref_eq (n : ByteArray) (l : List S115) (r : List S118) (a : Int) (hr : r.length ≤ 1048576) (k : Nat) (hk : 1048580 < k) : spec_l27Ref.f k n l r a = some (refIdx a r 0) := by
  unfold spec_l27Ref.f
  have h : ∀ k i : Nat, i ≤ r.length → r.length < i + k → spec_l27Ref.l0 k a (i : Int) n l r = some (refIdx a (r.drop i) i) := by
    intro k
    induction k with
    | zero => intro i h1 h2; omega
    | succ k ih =>
      intro i h1 h2
      rw [spec_l27Ref.l0]
      by_cases hi : i < r.length
      · rw [if_pos (by omega), if_pos (by omega), refIdx_drop a r i hi]
        by_cases hn : (rd_T118 r (i : Int)).f0 = a
        · rw [if_pos hn, if_pos hn]
        · rw [if_neg hn, if_neg hn, wrap_succ (by omega)]; exact ih (i + 1) (by omega) (by omega)
      · rw [if_neg (by omega), List.drop_of_length_le (by omega)]; rfl
  exact h k 0 (Nat.zero_le _) (by omega)
def insB (x : S115) : Bool := insOkB x.f0 x.f1 x.f2 x.f3 x.f4
def goesB (x : S115) : Bool := decide (x.f0 = 8 ∨ x.f0 = 7)
/-- Is a reference right: its place is one that goes somewhere, and no earlier one is at this place. -/
def refCond (l : List S115) (r : List S118) (i : Nat) : Bool :=
  decide (0 ≤ (rd_T118 r (i : Int)).f0 ∧ (rd_T118 r (i : Int)).f0 ≤ (l.length : Int) - 1) && (decide (refIdx (rd_T118 r (i : Int)).f0 r 0 = (i : Int)) && (goesB (rd_T115 l (rd_T118 r (i : Int)).f0) && nameB (rd_T118 r (i : Int)).f1))
def refsB (l : List S115) (r : List S118) : Bool := (List.range r.length).all (refCond l r)
def partB (n : ByteArray) (l : List S115) (r : List S118) : Bool := nameB n && (decide (1 ≤ (l.length : Int) ∧ (l.length : Int) ≤ 24) && (decide (r.length ≤ 24) && (l.all insB && refsB l r)))
theorem refsB_iff (l : List S115) (r : List S118) : refsB l r = true ↔ (∀ j, j < r.length → refCond l r j = true) ∧ true = true := by
  unfold refsB; rw [List.all_eq_true]
  exact ⟨fun h => ⟨fun j hj => h j (List.mem_range.2 hj), rfl⟩, fun h j hj => h.1 j (List.mem_range.1 hj)⟩
theorem goes_eq (x : S115) : impl_goesTo.f x.f0 x.f1 x.f2 x.f3 x.f4 = some (goesB x) := by
  unfold impl_goesTo.f goesB
  by_cases h : x.f0 = 8
  · rw [if_pos h]; simp [h]
  · rw [if_neg h]; simp only [h, false_or]; congr 1
theorem l27Goes_eq (x : S115) : spec_l27Goes.f x.f0 x.f1 x.f2 x.f3 x.f4 = some (goesB x) := goes_eq x
theorem implPartOk_eq (n : ByteArray) (l : List S115) (r : List S118) (hn : n.size ≤ 1048576) (hl : l.length ≤ 1048576) (hr : r.length ≤ 1048576) (hx : ∀ x ∈ r, x.f1.size ≤ 1048576) (k : Nat) (hk : 4000000 < k) : impl_PartOk.f k n l r = some (partB n l r) := by
  obtain ⟨k, rfl⟩ : ∃ m, k = m + 1 := ⟨k - 1, by omega⟩
  have jt : impl_PartOk.j0 (k + 1) true n l r = some false := by rw [impl_PartOk.j0, if_pos rfl]
  unfold impl_PartOk.f partB
  rw [nameOk_eq n hn _ (by omega), Option.bind_some]
  by_cases h1 : nameB n = true
  · rw [if_pos h1, h1, from_eq, Option.bind_some, Bool.true_and]
    by_cases h2 : 1 ≤ (l.length : Int) ∧ (l.length : Int) ≤ 24
    · rw [if_pos (decide_eq_true h2), decide_eq_true h2, Bool.true_and]
      by_cases h3 : r.length ≤ 24
      · rw [if_neg (by omega), decide_eq_true h3, Bool.true_and]
        unfold slices_ContainsFunc_at_impl_PartOk_1.f slices_IndexFunc_at_impl_PartOk_1.f
        have hf : ∀ x : S115, impl_PartOk_1.f x.f0 x.f1 x.f2 x.f3 x.f4 = some (!insB x) := fun x => rfl
        have H := idx_any (n := l.length) (fun k i => slices_IndexFunc_at_impl_PartOk_1.l0 k l (l.length : Int) (i : Int)) (fun i => !insB (rd_T115 l (i : Int))) ?_ ?_ ?_ (!(l.all insB)) ?_ (k + 1) (by omega)
        · obtain ⟨v, e, hv⟩ := H
          have e' : slices_IndexFunc_at_impl_PartOk_1.l0 (k + 1) l (l.length : Int) 0 = some v := e
          rw [e', Option.bind_some, Option.bind_some, hv]
          cases hb : l.all insB
          · rw [Bool.not_false, jt, Bool.false_and]
          · rw [Bool.not_true, impl_PartOk.j0, if_neg (by simp), Bool.true_and]
            refine for_all (L := fun k' i => impl_PartOk.l0 (k' + 1048581) r (r.length : Int) (i : Int) n l r) (n := r.length) (fun j => refCond l r j = true) ?_ ?_ true ?_ (refsB_iff l r) (k - 1048581) (by omega) |> fun h => by rw [show k - 1048581 + 1048581 = k by omega] at h; exact h
            · intro k' i hi hp
              have hs : (rd_T118 r (i : Int)).f1.size ≤ 1048576 := by rw [rdRef' r i hi]; exact hx _ (List.getElem_mem hi)
              have hff := refIdx_first (rd_T118 r (i : Int)).f0 r 0 i hi (by rw [rdRef' r i hi])
              rw [Nat.zero_add] at hff
              unfold refCond at hp
              rw [Bool.and_eq_true, Bool.and_eq_true, Bool.and_eq_true] at hp
              obtain ⟨p1, p2, p3, p4⟩ := hp
              have q1 := of_decide_eq_true p1
              rw [show k' + 1 + 1048581 = (k' + 1048581) + 1 by omega, impl_PartOk.l0, if_pos (by omega), if_pos (by omega), if_pos (by omega), wrap_small (by omega) (by omega), from_eq, p1, Option.bind_some, if_pos rfl, if_pos (by omega), Int.toNat_natCast, impl_isRef.f, hff, p2, Option.bind_some, if_neg (by simp), if_pos q1.1, if_pos (by omega), goes_eq, p3, Option.bind_some, if_pos rfl, nameOk_eq _ hs _ (by omega), p4, Option.bind_some, if_pos rfl, wrap_succ (by omega)]
            · intro k' i hi hp
              have hs : (rd_T118 r (i : Int)).f1.size ≤ 1048576 := by rw [rdRef' r i hi]; exact hx _ (List.getElem_mem hi)
              have hff := refIdx_first (rd_T118 r (i : Int)).f0 r 0 i hi (by rw [rdRef' r i hi])
              rw [Nat.zero_add] at hff
              rw [show k' + 1 + 1048581 = (k' + 1048581) + 1 by omega, impl_PartOk.l0, if_pos (by omega), if_pos (by omega), if_pos (by omega), wrap_small (by omega) (by omega), from_eq, Option.bind_some]
              by_cases q1 : 0 ≤ (rd_T118 r (i : Int)).f0 ∧ (rd_T118 r (i : Int)).f0 ≤ (l.length : Int) - 1
              · rw [if_pos (decide_eq_true q1), if_pos (by omega), Int.toNat_natCast, impl_isRef.f, hff, Option.bind_some]
                by_cases q2 : refIdx (rd_T118 r (i : Int)).f0 r 0 = (i : Int)
                · rw [decide_eq_true q2, if_neg (by simp), if_pos q1.1, if_pos (by omega), goes_eq, Option.bind_some]
                  by_cases q3 : goesB (rd_T115 l (rd_T118 r (i : Int)).f0) = true
                  · rw [if_pos q3, nameOk_eq _ hs _ (by omega), Option.bind_some]
                    have q4 : ¬ nameB (rd_T118 r (i : Int)).f1 = true := fun q4 => hp (by unfold refCond; rw [decide_eq_true q1, decide_eq_true q2, q3, q4]; rfl)
                    rw [if_neg q4]
                  · rw [if_neg q3]
                · rw [decide_eq_false q2, if_pos (by simp)]
              · rw [if_neg (by simpa using q1)]
            · intro k'
              rw [show k' + 1 + 1048581 = (k' + 1048581) + 1 by omega, impl_PartOk.l0, if_neg (by omega)]
        · intro k i hi hq
          simp only [slices_IndexFunc_at_impl_PartOk_1.l0]
          rw [if_pos (by omega), if_pos (by omega), if_pos (by omega), hf, hq, Option.bind_some, if_neg (by simp), wrap_succ (by omega)]
        · intro k i hi hq
          simp only [slices_IndexFunc_at_impl_PartOk_1.l0]
          rw [if_pos (by omega), if_pos (by omega), if_pos (by omega), hf, hq, Option.bind_some, if_pos rfl]
        · intro k
          simp only [slices_IndexFunc_at_impl_PartOk_1.l0]
          rw [if_neg (by omega)]
        · constructor
          · intro h
            refine Classical.byContradiction fun hn => ?_
            have : l.all insB = true := List.all_eq_true.2 fun x hx => by
              obtain ⟨j, hj, rfl⟩ := List.getElem_of_mem hx
              refine Classical.byContradiction fun hh => hn ⟨j, hj, ?_⟩
              rw [rdIns' l j hj, Bool.eq_false_iff.2 hh]; rfl
            rw [this] at h; exact absurd h (by simp)
          · rintro ⟨j, hj, hq⟩
            cases hc' : l.all insB
            · rfl
            · have := List.all_eq_true.1 hc' _ (List.getElem_mem hj)
              rw [rdIns' l j hj, this] at hq; exact absurd hq (by simp)
      · rw [if_pos (by omega), jt, decide_eq_false h3, Bool.false_and]
    · rw [if_neg (by simpa using h2), jt, decide_eq_false h2, Bool.false_and]
  · rw [if_neg h1, jt, Bool.eq_false_iff.2 h1, Bool.false_and]
theorem specPartOk_eq (n : ByteArray) (l : List S115) (r : List S118) (hn : n.size ≤ 1048576) (hl : l.length ≤ 1048576) (hr : r.length ≤ 1048576) (hx : ∀ x ∈ r, x.f1.size ≤ 1048576) (k : Nat) (hk : 5000000 < k) : spec_PartOk.f k n l r = some (partB n l r) := by
  unfold spec_PartOk.f
  have hj : ∀ k, 3500000 < k → spec_PartOk.l1 k 0 n l r = some (refsB l r) := by
    intro k hk
    refine for_all (L := fun k' i => spec_PartOk.l1 (k' + 1048581) (i : Int) n l r) (n := r.length) (fun j => refCond l r j = true) ?_ ?_ true ?_ (refsB_iff l r) (k - 1048581) (by omega) |> fun h => by rw [show k - 1048581 + 1048581 = k by omega] at h; exact h
    · intro k' i hi hp
      have hs : (rd_T118 r (i : Int)).f1.size ≤ 1048576 := by rw [rdRef' r i hi]; exact hx _ (List.getElem_mem hi)
      unfold refCond at hp
      rw [Bool.and_eq_true, Bool.and_eq_true, Bool.and_eq_true] at hp
      obtain ⟨p1, p2, p3, p4⟩ := hp
      have q1 := of_decide_eq_true p1
      rw [show k' + 1 + 1048581 = (k' + 1048581) + 1 by omega, spec_PartOk.l1, if_pos (by omega), if_pos (by omega), wrap_small (by omega) (by omega), l1In_eq, p1, Option.bind_some, if_pos rfl, if_pos q1.1, if_pos (by omega), l27Goes_eq, p3, Option.bind_some, if_pos rfl, l27Name_eq _ hs _ (by omega), p4, Option.bind_some, if_pos rfl, l27Ref_eq n l r _ hr _ (by omega), Option.bind_some, if_pos (of_decide_eq_true p2), wrap_succ (by omega)]
    · intro k' i hi hp
      have hs : (rd_T118 r (i : Int)).f1.size ≤ 1048576 := by rw [rdRef' r i hi]; exact hx _ (List.getElem_mem hi)
      rw [show k' + 1 + 1048581 = (k' + 1048581) + 1 by omega, spec_PartOk.l1, if_pos (by omega), if_pos (by omega), wrap_small (by omega) (by omega), l1In_eq, Option.bind_some]
      by_cases q1 : 0 ≤ (rd_T118 r (i : Int)).f0 ∧ (rd_T118 r (i : Int)).f0 ≤ (l.length : Int) - 1
      · rw [if_pos (decide_eq_true q1), if_pos q1.1, if_pos (by omega), l27Goes_eq, Option.bind_some]
        by_cases q3 : goesB (rd_T115 l (rd_T118 r (i : Int)).f0) = true
        · rw [if_pos q3, l27Name_eq _ hs _ (by omega), Option.bind_some]
          by_cases q4 : nameB (rd_T118 r (i : Int)).f1 = true
          · rw [if_pos q4, l27Ref_eq n l r _ hr _ (by omega), Option.bind_some]
            have q2 : ¬ refIdx (rd_T118 r (i : Int)).f0 r 0 = (i : Int) := fun q2 => hp (by unfold refCond; rw [decide_eq_true q1, decide_eq_true q2, q3, q4]; rfl)
            rw [if_neg q2]
          · rw [if_neg q4]
        · rw [if_neg q3]
      · rw [if_neg (by simpa using q1)]
    · intro k'
      rw [show k' + 1 + 1048581 = (k' + 1048581) + 1 by omega, spec_PartOk.l1, if_neg (by omega)]
  have hins : ∀ x : S115, spec_InsOk.f x.f0 x.f1 x.f2 x.f3 x.f4 = some (insB x) := fun x => specInsOk_eq _ _ _ _ _
  refine for_all (L := fun k' i => spec_PartOk.l0 (k' + 3600000) (i : Int) n l r) (n := l.length) (fun j => insB (rd_T115 l (j : Int)) = true) ?_ ?_ (nameB n && (decide (1 ≤ (l.length : Int) ∧ (l.length : Int) ≤ 24) && (decide (r.length ≤ 24) && refsB l r))) ?_ (q := partB n l r) ?_ (k - 3600000) (by omega) |> fun h => by rw [show k - 3600000 + 3600000 = k by omega] at h; exact h
  · intro k' i hi hp
    rw [show k' + 1 + 3600000 = (k' + 3600000) + 1 by omega, spec_PartOk.l0, if_pos (by omega), if_pos (by omega), hins, hp, Option.bind_some, if_pos rfl, wrap_succ (by omega)]
  · intro k' i hi hp
    rw [show k' + 1 + 3600000 = (k' + 3600000) + 1 by omega, spec_PartOk.l0, if_pos (by omega), if_pos (by omega), hins, Option.bind_some, if_neg hp]
  · intro k'
    have jt : spec_PartOk.j1 (k' + 3600000) true n l r = some false := by rw [show k' + 3600000 = (k' + 3599999) + 1 by omega, spec_PartOk.j1, if_pos rfl]
    have jf : spec_PartOk.j1 (k' + 3600000) false n l r = some (refsB l r) := by rw [show k' + 3600000 = (k' + 3599999) + 1 by omega, spec_PartOk.j1, if_neg (by simp)]; exact hj _ (by omega)
    rw [show k' + 1 + 3600000 = (k' + 3600000) + 1 by omega, spec_PartOk.l0, if_neg (by omega), l27Name_eq n hn _ (by omega), Option.bind_some]
    by_cases h1 : nameB n = true
    · rw [if_pos h1, h1, l1In_eq, Option.bind_some, Bool.true_and]
      by_cases h2 : 1 ≤ (l.length : Int) ∧ (l.length : Int) ≤ 24
      · rw [if_pos (decide_eq_true h2), decide_eq_true h2, Bool.true_and]
        by_cases h3 : r.length ≤ 24
        · rw [decide_eq_false (by omega : ¬ (r.length : Int) > 24), jf, decide_eq_true h3, Bool.true_and]
        · rw [decide_eq_true (by omega : (r.length : Int) > 24), jt, decide_eq_false h3, Bool.false_and]
      · rw [if_neg (by simpa using h2), jt, decide_eq_false h2, Bool.false_and]
    · rw [if_neg h1, jt, Bool.eq_false_iff.2 h1, Bool.false_and]
  · have ha : l.all insB = true ↔ ∀ j, j < l.length → insB (rd_T115 l (j : Int)) = true := by
      rw [List.all_eq_true]
      constructor
      · intro h j hj; rw [rdIns' l j hj]; exact h _ (List.getElem_mem hj)
      · intro h x hx
        obtain ⟨j, hj, rfl⟩ := List.getElem_of_mem hx
        have := h j hj; rwa [rdIns' l j hj] at this
    unfold partB
    simp only [Bool.and_eq_true]
    rw [← ha]
    constructor
    · rintro ⟨h1, h2, h3, h4, h5⟩; exact ⟨h4, h1, h2, h3, h5⟩
    · rintro ⟨h4, h1, h2, h3, h5⟩; exact ⟨h1, h2, h3, h4, h5⟩
/-- What a mark's text is. -/
theorem markText_ex (v : Int) (hv : v ≤ 1152921504606846976) : ∃ t : ByteArray, ∀ k, 60 < k → laws_markText.f k v = some t := by
  have go : ∀ (f : Nat) (x : Int) (s : ByteArray), s.size + f ≤ 100 → x < 10 ^ f → ∃ t : ByteArray, ∀ k, f < k → laws_markText.l0 k x s = some t := by
    intro f
    induction f with
    | zero =>
      intro x s hs hx
      refine ⟨(⟨#[109]⟩ : ByteArray) ++ s, fun k hk => ?_⟩
      obtain ⟨k, rfl⟩ : ∃ m, k = m + 1 := ⟨k - 1, by omega⟩
      rw [laws_markText.l0, if_neg (by simp at hx; omega), if_pos (by omega)]
    | succ f ih =>
      intro x s hs hx
      by_cases c : x > 0
      · have hx2 : Int.tdiv x 10 < 10 ^ f := by rw [tdiv_pos _ _ (by omega)]; rw [Int.pow_succ] at hx; omega
        have hsz : ∀ y, (strOfNums [y] ++ s).size + f ≤ 100 := by
          intro y
          have e : (strOfNums [y]).size = 1 := rfl
          rw [ByteArray.size_append, e]; omega
        have hw : wrap64 (Int.tdiv x 10) < 10 ^ f := by
          rw [tdiv_pos _ _ (by omega)] at hx2 ⊢
          by_cases d : x ≤ 9223372036854775807
          · rw [wrap_small (by omega) (by omega)]; exact hx2
          · unfold wrap64
            have : x / 10 ≥ 922337203685477580 := by omega
            omega
        obtain ⟨t, ht⟩ := ih (wrap64 (Int.tdiv x 10)) (strOfNums [(wrap64 (48 + (Int.tmod x 10))) % 256] ++ s) (hsz _) hw
        refine ⟨t, fun k hk => ?_⟩
        obtain ⟨k, rfl⟩ : ∃ m, k = m + 1 := ⟨k - 1, by omega⟩
        have e : (strOfNums [(wrap64 (48 + (Int.tmod x 10))) % 256]).size = 1 := rfl
        rw [laws_markText.l0, if_pos c, Option.bind_some, if_pos (by rw [e]; omega)]
        exact ht k (by omega)
      · refine ⟨(⟨#[109]⟩ : ByteArray) ++ s, fun k hk => ?_⟩
        obtain ⟨k, rfl⟩ : ∃ m, k = m + 1 := ⟨k - 1, by omega⟩
        rw [laws_markText.l0, if_neg c, if_pos (by omega)]
  by_cases h : v ≤ 0
  · exact ⟨⟨#[109, 48]⟩, fun k hk => by unfold laws_markText.f; rw [if_pos h]⟩
  · obtain ⟨t, ht⟩ := go 20 v ⟨#[]⟩ (by decide) (by omega)
    exact ⟨t, fun k hk => by unfold laws_markText.f; rw [if_neg h]; exact ht k (by omega)⟩
/-- The text of a mark. -/
noncomputable def markT (v : Int) : ByteArray := (laws_markText.f 100 v).getD ⟨#[]⟩
theorem markText_eq (v : Int) (hv : v ≤ 1152921504606846976) (k : Nat) (hk : 60 < k) : laws_markText.f k v = some (markT v) := by
  obtain ⟨t, ht⟩ := markText_ex v hv
  unfold markT
  rw [ht k hk, ht 100 (by omega)]; rfl
def markI (s : Int) (i : Nat) : S115 := ⟨s + 5 * (i : Int), s + 5 * (i : Int) + 1, s + 5 * (i : Int) + 2, s + 5 * (i : Int) + 3, s + 5 * (i : Int) + 4⟩
def marksI (s : Int) (n : Nat) : List S115 := (List.range n).map (markI s)
theorem marksI_length (s : Int) (n : Nat) : (marksI s n).length = n := by simp [marksI]
theorem marksI_get (s : Int) (n i : Nat) (h : i < n) : (marksI s n)[i]'(by rw [marksI_length]; exact h) = markI s i := by simp [marksI]
theorem rdI_set (l : List S115) (i : Nat) (v : S115) (h : i < l.length) : rd_T115 (l.set i v) (i : Int) = v := by
  rw [rdInsE _ i (by simpa using h)]; simp
theorem markInsS_eq (l : List S115) (s : Int) (h0 : 0 ≤ s) (h1 : s ≤ 288230376151711744) (hl : l.length ≤ 2097152) (k : Nat) (hk : l.length < k) : laws_markInsS.f k l s = some (s + 5 * (l.length : Int), marksI s l.length) := by
  unfold laws_markInsS.f
  have h := for_st l.length (fun k i (t : List S115 × Int) => laws_markInsS.l0 k t.1 t.2 (i : Int)) (fun i => ((marksI s l.length).take i ++ l.drop i, s + 5 * (i : Int))) (s + 5 * (l.length : Int), marksI s l.length) ?_ ?_ k 0 (Nat.zero_le _) (by omega)
  · simpa using h
  · intro k i hi
    have hlen : ((marksI s l.length).take i ++ l.drop i).length = l.length := by rw [List.length_append, List.length_take, List.length_drop, marksI_length]; omega
    have hs := set_step (marksI s l.length) l i (by rw [marksI_length]; exact hi) (by rw [marksI_length])
    rw [marksI_get s l.length i hi] at hs
    dsimp only
    generalize (marksI s l.length).take i ++ l.drop i = x at hlen hs ⊢
    rw [laws_markInsS.l0, if_pos (by omega), if_pos (by omega)]
    simp only [Option.bind_some, Int.toNat_natCast]
    have r1 : ∀ v, rd_T115 (x.set i v) (i : Int) = v := fun v => rdI_set x i v (by omega)
    simp only [List.set_set, r1]
    rw [wrap_succ (by omega)]
    simp only [wrap_small (x := s + 5 * (i : Int) + 1) (by omega) (by omega), wrap_small (x := s + 5 * (i : Int) + 1 + 1) (by omega) (by omega), wrap_small (x := s + 5 * (i : Int) + 1 + 1 + 1) (by omega) (by omega), wrap_small (x := s + 5 * (i : Int) + 1 + 1 + 1 + 1) (by omega) (by omega), wrap_small (x := s + 5 * (i : Int) + 1 + 1 + 1 + 1 + 1) (by omega) (by omega)]
    rw [← hs]
    have e : (⟨s + 5 * (i : Int), s + 5 * (i : Int) + 1, s + 5 * (i : Int) + 1 + 1, s + 5 * (i : Int) + 1 + 1 + 1, s + 5 * (i : Int) + 1 + 1 + 1 + 1⟩ : S115) = markI s i := by
      unfold markI; congr 1 <;> omega
    rw [e]; congr 1; omega
  · intro k
    dsimp only
    rw [laws_markInsS.l0, if_neg (by simp [marksI_length])]
    simp [List.take_of_length_le, marksI_length]
noncomputable def markR (s : Int) (i : Nat) : S118 := ⟨s + 2 * (i : Int), markT (s + 2 * (i : Int) + 1)⟩
noncomputable def marksR (s : Int) (n : Nat) : List S118 := (List.range n).map (markR s)
theorem marksR_length (s : Int) (n : Nat) : (marksR s n).length = n := by simp [marksR]
theorem marksR_get (s : Int) (n i : Nat) (h : i < n) : (marksR s n)[i]'(by rw [marksR_length]; exact h) = markR s i := by simp [marksR]
theorem rdR_set (l : List S118) (i : Nat) (v : S118) (h : i < l.length) : rd_T118 (l.set i v) (i : Int) = v := by
  rw [rdRefE _ i (by simpa using h)]; simp
theorem markRefS_eq (l : List S118) (s : Int) (h0 : 0 ≤ s) (h1 : s ≤ 288230376151711744) (hl : l.length ≤ 2097152) (k : Nat) (hk : l.length + 100 < k) : laws_markRefS.f k l s = some (s + 2 * (l.length : Int), marksR s l.length) := by
  unfold laws_markRefS.f
  have h := for_stC 70 l.length (fun k i (t : List S118 × Int) => laws_markRefS.l0 k t.1 t.2 (i : Int)) (fun i => ((marksR s l.length).take i ++ l.drop i, s + 2 * (i : Int))) (s + 2 * (l.length : Int), marksR s l.length) ?_ ?_ k 0 (Nat.zero_le _) (by omega)
  · simpa using h
  · intro k i hk hi
    have hlen : ((marksR s l.length).take i ++ l.drop i).length = l.length := by rw [List.length_append, List.length_take, List.length_drop, marksR_length]; omega
    have hs := set_step (marksR s l.length) l i (by rw [marksR_length]; exact hi) (by rw [marksR_length])
    rw [marksR_get s l.length i hi] at hs
    dsimp only
    generalize (marksR s l.length).take i ++ l.drop i = x at hlen hs ⊢
    rw [laws_markRefS.l0, if_pos (by omega), if_pos (by omega)]
    simp only [Option.bind_some, Int.toNat_natCast]
    rw [wrap_small (x := s + 2 * (i : Int) + 1) (by omega) (by omega), markText_eq _ (by omega) k (by omega), Option.bind_some]
    have r1 : ∀ v, rd_T118 (x.set i v) (i : Int) = v := fun v => rdR_set x i v (by omega)
    simp only [List.set_set, r1]
    rw [wrap_succ (by omega), wrap_small (by omega) (by omega), ← hs]
    show laws_markRefS.l0 k (x.set i (markR s i)) _ _ = _
    congr 1; omega
  · intro k hk
    dsimp only
    rw [laws_markRefS.l0, if_neg (by simp [marksR_length])]
    simp [List.take_of_length_le, marksR_length]
theorem markPartS_ex (n : Nat) (hn : n ≤ 1048576) : ∀ (d i : Nat) (x : List S107) (s : Int) (k : Nat), x.length = n → i + d = n → (∀ j : Nat, i ≤ j → j < n → (rd_T107 x (j : Int)).f1.length ≤ 1048576 ∧ (rd_T107 x (j : Int)).f2.length ≤ 1048576) → 0 ≤ s → s ≤ 1 + 10000000 * (i : Int) → d + 2100000 < k → ∃ r v, laws_markPartS.l0 k x s (i : Int) = some (r, v) ∧ 0 ≤ r
  | 0, i, x, s, k, hx, hi, hj, h0, h1, hk => by
    obtain ⟨k, rfl⟩ : ∃ m, k = m + 1 := ⟨k - 1, by omega⟩
    rw [laws_markPartS.l0, if_neg (by omega)]
    exact ⟨s, x, rfl, h0⟩
  | d + 1, i, x, s, k, hx, hi, hj, h0, h1, hk => by
    obtain ⟨k, rfl⟩ : ∃ m, k = m + 1 := ⟨k - 1, by omega⟩
    have hji := hj i (Nat.le_refl _) (by omega)
    rw [laws_markPartS.l0, if_pos (by omega), if_pos (by omega), markText_eq s (by omega) k (by omega), Option.bind_some, wrap_small (x := s + 1) (by omega) (by omega), markInsS_eq _ (s + 1) (by omega) (by omega) (by omega) k (by omega), Option.bind_some]
    dsimp only
    rw [markRefS_eq _ _ (by omega) (by omega) (by omega) k (by omega), Option.bind_some]
    dsimp only
    rw [wrap_succ (by omega)]
    refine markPartS_ex n hn d (i + 1) _ _ k (by rw [List.length_set]; exact hx) (by omega) (fun j h2 h3 => ?_) (by omega) (by omega) (by omega)
    have := hj j (by omega) h3
    have e : rd_T107 (x.set (i : Int).toNat ⟨markT s, marksI (s + 1) (rd_T107 x (i : Int)).f1.length, marksR (s + 1 + 5 * ((rd_T107 x (i : Int)).f1.length : Int)) (rd_T107 x (i : Int)).f2.length⟩) (j : Int) = rd_T107 x (j : Int) := by
      rw [rdPart _ j (by rw [List.length_set]; omega), rdPart x j (by omega), List.getElem_set_ne (by simp; omega)]
    rw [e]; exact this
/-- A part of a list is right: it is, and the first of its name. -/
def okP (l : List S107) (i : Nat) : Bool := partB (rd_T107 l (i : Int)).f0 (rd_T107 l (i : Int)).f1 (rd_T107 l (i : Int)).f2 && decide (partIdx (rd_T107 l (i : Int)).f0 l 0 = (i : Int))
def atTo (l : List S107) : Nat → Nat
  | 0 => 0
  | i + 1 => atTo l i + (rd_T107 l (i : Int)).f1.length
def outTo (l : List S107) (i : Nat) : List Int := (List.range i).map fun j => (atTo l j : Int)
theorem outTo_len (l : List S107) (i : Nat) : (outTo l i).length = i := by simp [outTo]
theorem outTo_succ (l : List S107) (i : Nat) : outTo l i ++ [(atTo l i : Int)] = outTo l (i + 1) := by unfold outTo; rw [List.range_succ, List.map_append]; rfl
def layB (l : List S107) : Bool := decide (l.length ≤ 4) && ((List.range l.length).all (okP l) && decide (atTo l l.length ≤ 24))
def layV (l : List S107) : List Int × Bool := if layB l = true then (outTo l l.length, true) else ([], false)
theorem layV_no (l : List S107) (i : Nat) (h : i < l.length) (h2 : okP l i = false) : layV l = ([], false) := by
  unfold layV
  rw [if_neg]
  intro q
  unfold layB at q
  rw [Bool.and_eq_true, Bool.and_eq_true, List.all_eq_true] at q
  have := q.2.1 i (List.mem_range.2 h)
  rw [h2] at this; exact absurd this (by simp)
def partsIn (l : List S107) : Prop := ∀ x ∈ l, x.f0.size ≤ 1048576 ∧ x.f1.length ≤ 1048576 ∧ x.f2.length ≤ 1048576 ∧ ∀ y ∈ x.f2, y.f1.size ≤ 1048576
theorem atTo_le (l : List S107) (hx : partsIn l) : ∀ i, i ≤ l.length → atTo l i ≤ 1048576 * i
  | 0, _ => Nat.le_refl _
  | i + 1, h => by
    have h1 := atTo_le l hx i (by omega)
    have h2 := (hx _ (List.getElem_mem (by omega : i < l.length))).2.1
    rw [atTo, rdPart l i (by omega)]; omega
theorem layV_end (l : List S107) (h4 : l.length ≤ 4) (hk : ∀ j, j < l.length → okP l j = true) : layV l = if (atTo l l.length : Int) > 24 then ([], false) else (outTo l l.length, true) := by
  unfold layV
  by_cases c : (atTo l l.length : Int) > 24
  · rw [if_pos c, if_neg]
    intro q
    unfold layB at q
    rw [Bool.and_eq_true, Bool.and_eq_true] at q
    have := of_decide_eq_true q.2.2
    omega
  · rw [if_neg c, if_pos]
    unfold layB
    rw [decide_eq_true h4, decide_eq_true (by omega), Bool.true_and, Bool.and_true, List.all_eq_true]
    exact fun j hj => hk j (List.mem_range.1 hj)
theorem implLay_l (l : List S107) (hx : partsIn l) (h4 : l.length ≤ 4) : ∀ (d i k : Nat), i + d = l.length → 6000000 + d < k → (∀ j, j < i → okP l j = true) →
    impl_Layout.l0 k l (outTo l i) (atTo l i : Int) l (l.length : Int) (i : Int) = some (layV l)
  | 0, i, k, hi, hk, hj => by
    obtain ⟨k, rfl⟩ : ∃ m, k = m + 1 := ⟨k - 1, by omega⟩
    have e : i = l.length := by omega
    subst e
    rw [impl_Layout.l0, if_neg (by omega), layV_end l h4 hj]
    split <;> rfl
  | d + 1, i, k, hi, hk, hj => by
    obtain ⟨k, rfl⟩ : ∃ m, k = m + 1 := ⟨k - 1, by omega⟩
    have hm := List.getElem_mem (by omega : i < l.length)
    have hxi := hx _ hm
    have hat := atTo_le l hx i (by omega)
    have er := rdPart l i (by omega)
    have no : okP l i = false → layV l = ([], false) := layV_no l i (by omega)
    have e2 : impl_PartAt.f l (rd_T107 l (i : Int)).f0 = some (partIdx (rd_T107 l (i : Int)).f0 l 0) := rfl
    have e1 : impl_PartOk.f k (rd_T107 l (i : Int)).f0 (rd_T107 l (i : Int)).f1 (rd_T107 l (i : Int)).f2 = some (partB (rd_T107 l (i : Int)).f0 (rd_T107 l (i : Int)).f1 (rd_T107 l (i : Int)).f2) := by
      rw [er]; exact implPartOk_eq _ _ _ hxi.1 hxi.2.1 hxi.2.2.1 hxi.2.2.2 k (by omega)
    rw [impl_Layout.l0, if_pos (by omega), if_pos (by omega), if_pos (by omega), e1, Option.bind_some]
    by_cases p : partB (rd_T107 l (i : Int)).f0 (rd_T107 l (i : Int)).f1 (rd_T107 l (i : Int)).f2 = true
    · rw [if_pos p, e2, Option.bind_some]
      by_cases q : partIdx (rd_T107 l (i : Int)).f0 l 0 = (i : Int)
      · have ok : okP l i = true := by unfold okP; rw [p, decide_eq_true q]; rfl
        have hl2 : (rd_T107 l (i : Int)).f1.length ≤ 1048576 := by rw [er]; exact hxi.2.1
        rw [if_pos q, if_pos (by rw [outTo_len]; omega), outTo_succ, wrap_succ (by omega), wrap_small (x := (atTo l i : Int) + _) (by omega) (by omega)]
        have := implLay_l l hx h4 d (i + 1) k (by omega) (by omega) (fun j hj' => by
          by_cases e : j = i
          · subst e; exact ok
          · exact hj j (by omega))
        rw [atTo, Int.natCast_add] at this
        exact this
      · rw [if_neg q, no (by unfold okP; rw [decide_eq_false q, Bool.and_false])]
    · rw [if_neg p, no (by unfold okP; rw [Bool.eq_false_iff.2 p, Bool.false_and])]
theorem implLayout_eq (l : List S107) (hx : partsIn l) (k : Nat) (hk : 6000010 < k) : impl_Layout.f k l = some (layV l) := by
  unfold impl_Layout.f
  by_cases c : (l.length : Int) > 4
  · rw [if_pos c]; unfold layV layB; rw [decide_eq_false (by omega), Bool.false_and]; rfl
  · rw [if_neg c]
    exact implLay_l l hx (by omega) l.length 0 k (by omega) (by omega) (fun j hj => by omega)
theorem specLay_l (l : List S107) (hx : partsIn l) (h4 : l.length ≤ 4) : ∀ (d i k : Nat), i + d = l.length → 6000000 + d < k → (∀ j, j < i → okP l j = true) →
    spec_Layout.l0 k l (outTo l i) (atTo l i : Int) (i : Int) = some (layV l)
  | 0, i, k, hi, hk, hj => by
    obtain ⟨k, rfl⟩ : ∃ m, k = m + 1 := ⟨k - 1, by omega⟩
    have e : i = l.length := by omega
    subst e
    rw [spec_Layout.l0, if_neg (by omega), layV_end l h4 hj]
    split <;> rfl
  | d + 1, i, k, hi, hk, hj => by
    obtain ⟨k, rfl⟩ : ∃ m, k = m + 1 := ⟨k - 1, by omega⟩
    have hm := List.getElem_mem (by omega : i < l.length)
    have hxi := hx _ hm
    have hat := atTo_le l hx i (by omega)
    have er := rdPart l i (by omega)
    have no : okP l i = false → layV l = ([], false) := layV_no l i (by omega)
    have e1 : spec_PartOk.f k (rd_T107 l (i : Int)).f0 (rd_T107 l (i : Int)).f1 (rd_T107 l (i : Int)).f2 = some (partB (rd_T107 l (i : Int)).f0 (rd_T107 l (i : Int)).f1 (rd_T107 l (i : Int)).f2) := by
      rw [er]; exact specPartOk_eq _ _ _ hxi.1 hxi.2.1 hxi.2.2.1 hxi.2.2.2 k (by omega)
    rw [spec_Layout.l0, if_pos (by omega), if_pos (by omega), e1, Option.bind_some]
    by_cases p : partB (rd_T107 l (i : Int)).f0 (rd_T107 l (i : Int)).f1 (rd_T107 l (i : Int)).f2 = true
    · rw [if_pos p, specPartAt_eq l _ (by omega) k (by omega), Option.bind_some]
      by_cases q : partIdx (rd_T107 l (i : Int)).f0 l 0 = (i : Int)
      · have ok : okP l i = true := by unfold okP; rw [p, decide_eq_true q]; rfl
        have hl2 : (rd_T107 l (i : Int)).f1.length ≤ 1048576 := by rw [er]; exact hxi.2.1
        rw [if_pos q, if_neg (by omega), if_pos (by rw [outTo_len]; omega), outTo_succ, wrap_succ (by omega), wrap_small (x := (atTo l i : Int) + _) (by omega) (by omega)]
        have := specLay_l l hx h4 d (i + 1) k (by omega) (by omega) (fun j hj' => by
          by_cases e : j = i
          · subst e; exact ok
          · exact hj j (by omega))
        rw [atTo, Int.natCast_add] at this
        exact this
      · rw [if_neg q, no (by unfold okP; rw [decide_eq_false q, Bool.and_false])]
    · rw [if_neg p, no (by unfold okP; rw [Bool.eq_false_iff.2 p, Bool.false_and])]
theorem specLayout_eq (l : List S107) (hx : partsIn l) (hl : l.length ≤ 1048576) (k : Nat) (hk : 6000010 < k) : spec_Layout.f k l = some (layV l) := by
  unfold spec_Layout.f
  by_cases c : l.length ≤ 4
  · exact specLay_l l hx c l.length 0 k (by omega) (by omega) (fun j hj => by omega)
  · have hv : layV l = ([], false) := by unfold layV layB; rw [decide_eq_false c, Bool.false_and]; rfl
    obtain ⟨k, rfl⟩ : ∃ m, k = m + 1 := ⟨k - 1, by omega⟩
    have hxi := hx _ (List.getElem_mem (by omega : 0 < l.length))
    have er := rdPart l 0 (by omega)
    have e1 : spec_PartOk.f k (rd_T107 l 0).f0 (rd_T107 l 0).f1 (rd_T107 l 0).f2 = some (partB (rd_T107 l 0).f0 (rd_T107 l 0).f1 (rd_T107 l 0).f2) := by
      have er' : rd_T107 l 0 = l[0] := er
      rw [er']; exact specPartOk_eq _ _ _ hxi.1 hxi.2.1 hxi.2.2.1 hxi.2.2.2 k (by omega)
    rw [spec_Layout.l0, if_pos (by omega), if_pos (by omega), e1, Option.bind_some, hv, specPartAt_eq l _ hl k (by omega)]
    split
    · rw [Option.bind_some]
      split
      · rw [if_pos (by omega)]
      · rfl
    · rfl
abbrev TP := S107
abbrev TI := S115
abbrev TR := S118
theorem partIdx_lt (a : ByteArray) : ∀ (l : List TP) (s : Nat), partIdx a l s < ((s + l.length : Nat) : Int)
  | [], s => by rw [partIdx]; omega
  | x :: r, s => by
    rw [partIdx]
    split
    · simp only [List.length_cons]; omega
    · have := partIdx_lt a r (s + 1); simp only [List.length_cons] at this ⊢; omega
theorem refIdx_lt (a : Int) : ∀ (l : List TR) (s : Nat), refIdx a l s < ((s + l.length : Nat) : Int)
  | [], s => by rw [refIdx]; omega
  | x :: r, s => by
    rw [refIdx]
    split
    · simp only [List.length_cons]; omega
    · have := refIdx_lt a r (s + 1); simp only [List.length_cons] at this ⊢; omega
theorem refIdx_at (a : Int) : ∀ (l : List TR) (s j : Nat), refIdx a l s = ((s + j : Nat) : Int) → ∃ h : j < l.length, (l[j]'h).f0 = a
  | [], s, j, h => by rw [refIdx] at h; omega
  | x :: r, s, j, h => by
    rw [refIdx] at h
    split at h
    · rename_i q
      have : j = 0 := by omega
      subst this; exact ⟨by simp, q⟩
    · have hge : ∀ (l : List TR) (s : Nat), refIdx a l s = -1 ∨ (s : Int) ≤ refIdx a l s := by
        intro l
        induction l with
        | nil => intro s; left; rw [refIdx]
        | cons y r ih =>
          intro s; rw [refIdx]; split
          · right; omega
          · rcases ih (s + 1) with q | q
            · left; exact q
            · right; omega
      have := hge r (s + 1)
      cases j with
      | zero => omega
      | succ j =>
        obtain ⟨h1, h2⟩ := refIdx_at a r (s + 1) j (by rw [h]; omega)
        exact ⟨by simpa using h1, by simpa using h2⟩
theorem rdRefL (l : List TR) (i : Nat) (h : i < l.length) : rd_T118 l (i : Int) = l[i] := by
  unfold rd_T118; simp [List.getD, h]
def codeI (x : TI) : Int := codeW x.f0 x.f1 x.f2 x.f3 x.f4
/-- Where a reference leads. -/
def toOf (t : List TP) (r : List TR) (j : Int) : Int := partIdx (rd_T118 r j).f1 t 0
def putN (x : TI) (n : Int) : TI := ⟨x.f0, x.f1, x.f2, x.f3, n⟩
def insAt (t : List TP) (o : List Int) (l : List TI) (r : List TR) (k : Nat) : TI := if 0 ≤ refIdx (k : Int) r 0 then putN (rd_T115 l (k : Int)) (rd o (toOf t r (refIdx (k : Int) r 0))) else rd_T115 l (k : Int)
def doneTo (t : List TP) (o : List Int) (l : List TI) (r : List TR) (j : Nat) : List TI := (List.range l.length).map fun (k : Nat) => if 0 ≤ refIdx (k : Int) r 0 ∧ refIdx (k : Int) r 0 < (j : Int) then insAt t o l r k else rd_T115 l (k : Int)
theorem doneTo_len (t : List TP) (o : List Int) (l : List TI) (r : List TR) (j : Nat) : (doneTo t o l r j).length = l.length := by simp [doneTo]
theorem doneTo_get (t : List TP) (o : List Int) (l : List TI) (r : List TR) (j k : Nat) (h : k < l.length) : (doneTo t o l r j)[k]'(by rw [doneTo_len]; exact h) = if 0 ≤ refIdx (k : Int) r 0 ∧ refIdx (k : Int) r 0 < (j : Int) then insAt t o l r k else rd_T115 l (k : Int) := by simp [doneTo]
theorem doneTo_0 (t : List TP) (o : List Int) (l : List TI) (r : List TR) : doneTo t o l r 0 = l := by
  refine List.ext_getElem (doneTo_len ..) (fun k h1 h2 => ?_)
  rw [doneTo_get t o l r 0 k h2, if_neg (by omega), rdInsE l k h2]
theorem doneTo_step (t : List TP) (o : List Int) (l : List TI) (r : List TR) (j a : Nat) (hj : j < r.length) (ha : (rd_T118 r (j : Int)).f0 = (a : Int)) (hl : a < l.length) (hf : refIdx (a : Int) r 0 = (j : Int)) :
    (doneTo t o l r j).set a (putN (rd_T115 (doneTo t o l r j) (a : Int)) (rd o (toOf t r (j : Int)))) = doneTo t o l r (j + 1) := by
  refine List.ext_getElem (by rw [List.length_set, doneTo_len, doneTo_len]) (fun k h1 h2 => ?_)
  rw [doneTo_len] at h2
  rw [List.getElem_set, doneTo_get t o l r (j + 1) k h2]
  by_cases e : a = k
  · subst e
    rw [if_pos rfl, if_pos ⟨by omega, by omega⟩, rdInsE _ a (by rw [doneTo_len]; exact hl), doneTo_get t o l r j a hl, if_neg (by omega)]
    unfold insAt; rw [if_pos (by omega), hf]
  · rw [if_neg e, doneTo_get t o l r j k h2]
    have hne : refIdx (k : Int) r 0 ≠ (j : Int) := fun q => by
      obtain ⟨h3, h4⟩ := refIdx_at (k : Int) r 0 j (by rw [q]; omega)
      rw [rdRefL r j hj] at ha
      rw [ha] at h4; omega
    by_cases c : 0 ≤ refIdx (k : Int) r 0 ∧ refIdx (k : Int) r 0 < (j : Int)
    · rw [if_pos c, if_pos ⟨c.1, by omega⟩]
    · rw [if_neg c, if_neg (fun q => c ⟨q.1, by omega⟩)]
theorem doneTo_all (t : List TP) (o : List Int) (l : List TI) (r : List TR) (k : Nat) (h : k < l.length) : (doneTo t o l r r.length)[k]'(by rw [doneTo_len]; exact h) = insAt t o l r k := by
  rw [doneTo_get t o l r _ k h]
  by_cases c : 0 ≤ refIdx (k : Int) r 0
  · rw [if_pos ⟨c, by have := refIdx_lt (k : Int) r 0; omega⟩]
  · rw [if_neg (fun q => c q.1)]; unfold insAt; rw [if_neg c]
def codes (t : List TP) (o : List Int) (l : List TI) (r : List TR) (k : Nat) : List Int := (List.range k).map fun (k : Nat) => codeI (insAt t o l r k)
theorem codes_len (t : List TP) (o : List Int) (l : List TI) (r : List TR) (k : Nat) : (codes t o l r k).length = k := by simp [codes]
theorem codes_succ (t : List TP) (o : List Int) (l : List TI) (r : List TR) (k : Nat) : codes t o l r (k + 1) = codes t o l r k ++ [codeI (insAt t o l r k)] := by unfold codes; rw [List.range_succ, List.map_append]; rfl
/-- What a part's references must be. -/
def refsOk (l : List TI) (r : List TR) : Prop := ∀ j, j < r.length → ∃ a : Nat, (rd_T118 r (j : Int)).f0 = (a : Int) ∧ a < l.length ∧ refIdx (a : Int) r 0 = (j : Int)
theorem refsOk_of {n : ByteArray} {l : List TI} {r : List TR} (h : partB n l r = true) : refsOk l r ∧ l.length ≤ 24 ∧ r.length ≤ 24 := by
  unfold partB at h
  rw [Bool.and_eq_true, Bool.and_eq_true, Bool.and_eq_true, Bool.and_eq_true, decide_eq_true_eq, decide_eq_true_eq] at h
  refine ⟨fun j hj => ?_, by omega, by omega⟩
  have q := ((refsB_iff l r).1 h.2.2.2.2).1 j hj
  unfold refCond at q
  rw [Bool.and_eq_true, Bool.and_eq_true, decide_eq_true_eq, decide_eq_true_eq] at q
  refine ⟨(rd_T118 r (j : Int)).f0.toNat, by omega, by omega, ?_⟩
  rw [Int.toNat_of_nonneg q.1.1]; exact q.2.1
def badP (t : List TP) (r : List TR) : Bool := (List.range r.length).any fun j => decide (toOf t r (j : Int) < 0)
theorem badP_no {t : List TP} {r : List TR} (h : badP t r = false) (j : Nat) (hj : j < r.length) : 0 ≤ toOf t r (j : Int) := by
  unfold badP at h
  rw [List.any_eq_false] at h
  have := h j (List.mem_range.2 hj)
  simpa using this
/-- impl: the references of a part, put in. -/
theorem impl_l1 (t : List TP) (o : List Int) (acc : List Int) (i : Nat) (l : List TI) (r : List TR) (ho : o.length = t.length) (hr : refsOk l r) (hl : l.length ≤ 24) (hR : r.length ≤ 24) (hb : badP t r = false) :
    ∀ (d j k : Nat), j + d = r.length → impl_Link.l1 (k + d + 1) t o acc (doneTo t o l r j) t (t.length : Int) (i : Int) r (r.length : Int) (j : Int) = impl_Link.l2 k t o acc t (t.length : Int) (i : Int) (doneTo t o l r r.length) (l.length : Int) 0
  | 0, j, k, hj => by
    have e : j = r.length := by omega
    subst e
    rw [show k + 0 + 1 = k + 1 from rfl, impl_Link.l1, if_neg (by omega), doneTo_len]
  | d + 1, j, k, hj => by
    have hjl : j < r.length := by omega
    obtain ⟨a, h1, h2, h3⟩ := hr j hjl
    have h4 := badP_no hb j hjl
    have h5 := partIdx_lt (rd_T118 r (j : Int)).f1 t 0
    have e2 : impl_PartAt.f t (rd_T118 r (j : Int)).f1 = some (toOf t r (j : Int)) := rfl
    have h5' : toOf t r (j : Int) < (t.length : Int) := by unfold toOf; omega
    have ih := impl_l1 t o acc i l r ho hr hl hR hb d (j + 1) k (by omega)
    have hs := doneTo_step t o l r j a hjl h1 h2 h3
    unfold putN at hs
    rw [show k + (d + 1) + 1 = (k + d + 1) + 1 by omega, impl_Link.l1, if_pos (by omega), if_pos (by omega), if_pos (by omega), e2, Option.bind_some, if_neg (by omega), if_pos h4, if_pos (by omega), h1, if_pos (by omega), if_pos (by rw [doneTo_len]; omega), Int.toNat_natCast, hs, wrap_succ (by omega)]
    exact ih
theorem impl_l1_bad (t : List TP) (o : List Int) (acc : List Int) (i : Nat) (l : List TI) (r : List TR) (ho : o.length = t.length) (hr : refsOk l r) (hl : l.length ≤ 24) (hR : r.length ≤ 24) :
    ∀ (d j k : Nat) (x : List TI), x.length = l.length → j + d = r.length → d < k → (∃ m, j ≤ m ∧ m < r.length ∧ toOf t r (m : Int) < 0) → impl_Link.l1 k t o acc x t (t.length : Int) (i : Int) r (r.length : Int) (j : Int) = some ([], false)
  | 0, j, k, x, hx, hj, hk, hb => by obtain ⟨m, _, _, _⟩ := hb; omega
  | d + 1, j, k, x, hx, hj, hk, hb => by
    obtain ⟨k, rfl⟩ : ∃ m, k = m + 1 := ⟨k - 1, by omega⟩
    obtain ⟨a, h1, h2, h3⟩ := hr j (by omega)
    have e2 : impl_PartAt.f t (rd_T118 r (j : Int)).f1 = some (toOf t r (j : Int)) := rfl
    have h5 := partIdx_lt (rd_T118 r (j : Int)).f1 t 0
    have h5' : toOf t r (j : Int) < (t.length : Int) := by unfold toOf; omega
    rw [impl_Link.l1, if_pos (by omega), if_pos (by omega), if_pos (by omega), e2, Option.bind_some]
    by_cases c : toOf t r (j : Int) < 0
    · rw [if_pos c]
    · rw [if_neg c, if_pos (by omega), if_pos (by omega), h1, if_pos (by omega), if_pos (by omega), wrap_succ (by omega)]
      refine impl_l1_bad t o acc i l r ho hr hl hR d (j + 1) k _ (by rw [List.length_set]; exact hx) (by omega) (by omega) ?_
      obtain ⟨m, m1, m2, m3⟩ := hb
      refine ⟨m, ?_, m2, m3⟩
      by_cases e : m = j
      · subst e; exact absurd m3 c
      · omega
theorem impl_l2 (t : List TP) (o : List Int) (acc : List Int) (i : Nat) (l : List TI) (r : List TR) (hl : l.length ≤ 24) (hi : i < 4) (ha : acc.length ≤ 1000) :
    ∀ (d m k : Nat), m + d = l.length → impl_Link.l2 (k + d + 1) t o (acc ++ codes t o l r m) t (t.length : Int) (i : Int) (doneTo t o l r r.length) (l.length : Int) (m : Int) = impl_Link.l0 k t o (acc ++ codes t o l r l.length) t (t.length : Int) ((i + 1 : Nat) : Int)
  | 0, m, k, hm => by
    have e : m = l.length := by omega
    subst e
    rw [show k + 0 + 1 = k + 1 from rfl, impl_Link.l2, if_neg (by omega), wrap_succ (by omega)]
  | d + 1, m, k, hm => by
    have hml : m < l.length := by omega
    have e : rd_T115 (doneTo t o l r r.length) (m : Int) = insAt t o l r m := by rw [rdInsE _ m (by rw [doneTo_len]; exact hml), doneTo_all t o l r m hml]
    rw [show k + (d + 1) + 1 = (k + d + 1) + 1 by omega, impl_Link.l2, if_pos (by omega), if_pos (by omega), if_pos (by rw [doneTo_len]; omega), e, implCode_eq, Option.bind_some]
    dsimp only
    rw [if_pos (by rw [List.length_append, codes_len]; omega), wrap_succ (by omega), List.append_assoc]
    have := impl_l2 t o acc i l r hl hi ha d (m + 1) k (by omega)
    rw [codes_succ] at this
    exact this
/-- spec: the instructions of a part, one by one. -/
theorem spec_l1 (t : List TP) (o : List Int) (acc : List Int) (i : Nat) (hi : i < t.length) (hi4 : i < 4) (n : ByteArray) (l : List TI) (r : List TR) (hp : rd_T107 t (i : Int) = ⟨n, l, r⟩) (ho : o.length = t.length) (ht : t.length ≤ 4) (hl : l.length ≤ 24) (hR : r.length ≤ 24) (hb : badP t r = false) (ha : acc.length ≤ 1000) :
    ∀ (d m k : Nat), m + d = l.length → 2000000 < k → spec_Link.l1 (k + d + 1) t o true (acc ++ codes t o l r m) (i : Int) (m : Int) = spec_Link.l0 k t o true (acc ++ codes t o l r l.length) ((i + 1 : Nat) : Int)
  | 0, m, k, hm, hk => by
    have e : m = l.length := by omega
    subst e
    rw [show k + 0 + 1 = k + 1 from rfl, spec_Link.l1, hp]
    dsimp only
    rw [if_pos (by omega), if_pos (by omega), if_neg (by omega), wrap_succ (by omega)]
  | d + 1, m, k, hm, hk => by
    have hml : m < l.length := by omega
    have ih := spec_l1 t o acc i hi hi4 n l r hp ho ht hl hR hb ha d (m + 1) k (by omega) hk
    rw [codes_succ, ← List.append_assoc] at ih
    rw [show k + (d + 1) + 1 = (k + d + 1) + 1 by omega, spec_Link.l1, hp]
    dsimp only
    rw [if_pos (by omega), if_pos (by omega), if_pos (by omega), if_pos (by omega), l27Ref_eq n l r _ (by omega) _ (by omega), Option.bind_some]
    have hlt := refIdx_lt (m : Int) r 0
    by_cases c : refIdx (m : Int) r 0 ≥ 0
    · obtain ⟨j, hj⟩ : ∃ j : Nat, refIdx (m : Int) r 0 = (j : Int) := ⟨_, (Int.toNat_of_nonneg c).symm⟩
      have h4 := badP_no hb j (by omega)
      have h5 := partIdx_lt (rd_T118 r (j : Int)).f1 t 0
      have h5' : toOf t r (j : Int) < (t.length : Int) := by unfold toOf; omega
      have e3 : spec_PartAt.f (k + d + 1) t (rd_T118 r (j : Int)).f1 = some (toOf t r (j : Int)) := specPartAt_eq t _ (by omega) _ (by omega)
      have e : codeI (insAt t o l r m) = codeW (rd_T115 l (m : Int)).f0 (rd_T115 l (m : Int)).f1 (rd_T115 l (m : Int)).f2 (rd_T115 l (m : Int)).f3 (rd o (toOf t r (j : Int))) := by
        unfold insAt; rw [hj, if_pos (by omega)]; rfl
      rw [if_pos c, if_pos c, if_pos (by omega), hj, e3, Option.bind_some, if_neg (by omega), if_pos h4, if_pos (by omega), specCode_eq, Option.bind_some]
      dsimp only
      rw [if_pos (by rw [List.length_append, codes_len]; omega), wrap_succ (by omega), ← e]
      exact ih
    · have e : codeI (insAt t o l r m) = codeW (rd_T115 l (m : Int)).f0 (rd_T115 l (m : Int)).f1 (rd_T115 l (m : Int)).f2 (rd_T115 l (m : Int)).f3 (rd_T115 l (m : Int)).f4 := by
        unfold insAt; rw [if_neg c]; rfl
      rw [if_neg c, specCode_eq, Option.bind_some]
      dsimp only
      rw [if_pos (by rw [List.length_append, codes_len]; omega), wrap_succ (by omega), ← e]
      exact ih
theorem spec_l1_bad (t : List TP) (o : List Int) (i : Nat) (hi : i < t.length) (hi4 : i < 4) (n : ByteArray) (l : List TI) (r : List TR) (hp : rd_T107 t (i : Int) = ⟨n, l, r⟩) (ho : o.length = t.length) (ht : t.length ≤ 4) (hl : l.length ≤ 24) (hR : r.length ≤ 24) :
    ∀ (d m k : Nat) (acc : List Int), acc.length ≤ 1000 + m → m + d = l.length → 2000000 + d < k → (∃ q : Nat, m ≤ q ∧ q < l.length ∧ 0 ≤ refIdx (q : Int) r 0 ∧ toOf t r (refIdx (q : Int) r 0) < 0) → spec_Link.l1 k t o true acc (i : Int) (m : Int) = some ([], false)
  | 0, m, k, acc, ha, hm, hk, hb => by obtain ⟨q, _, _, _⟩ := hb; omega
  | d + 1, m, k, acc, ha, hm, hk, hb => by
    obtain ⟨k, rfl⟩ : ∃ m, k = m + 1 := ⟨k - 1, by omega⟩
    have next : (refIdx (m : Int) r 0 ≥ 0 → ¬ toOf t r (refIdx (m : Int) r 0) < 0) → ∃ q : Nat, m + 1 ≤ q ∧ q < l.length ∧ 0 ≤ refIdx (q : Int) r 0 ∧ toOf t r (refIdx (q : Int) r 0) < 0 := fun h => by
      obtain ⟨q, q1, q2, q3, q4⟩ := hb
      refine ⟨q, ?_, q2, q3, q4⟩
      by_cases e : q = m
      · subst e; exact absurd q4 (h q3)
      · omega
    rw [spec_Link.l1, hp]
    dsimp only
    rw [if_pos (by omega), if_pos (by omega), if_pos (by omega), if_pos (by omega), l27Ref_eq n l r _ (by omega) _ (by omega), Option.bind_some]
    have hlt := refIdx_lt (m : Int) r 0
    by_cases c : refIdx (m : Int) r 0 ≥ 0
    · have h5 := partIdx_lt (rd_T118 r (refIdx (m : Int) r 0)).f1 t 0
      have h5' : toOf t r (refIdx (m : Int) r 0) < (t.length : Int) := by unfold toOf; omega
      have e3 : spec_PartAt.f k t (rd_T118 r (refIdx (m : Int) r 0)).f1 = some (toOf t r (refIdx (m : Int) r 0)) := specPartAt_eq t _ (by omega) _ (by omega)
      rw [if_pos c, if_pos c, if_pos (by omega), e3, Option.bind_some]
      by_cases b : toOf t r (refIdx (m : Int) r 0) < 0
      · rw [if_pos b]
      · rw [if_neg b, if_pos (by omega), if_pos (by omega), specCode_eq, Option.bind_some]
        dsimp only
        rw [if_pos (by omega), wrap_succ (by omega)]
        exact spec_l1_bad t o i hi hi4 n l r hp ho ht hl hR d (m + 1) k _ (by rw [List.length_append]; simp; omega) (by omega) (by omega) (next (fun _ => b))
    · rw [if_neg c, specCode_eq, Option.bind_some]
      dsimp only
      rw [if_pos (by omega), wrap_succ (by omega)]
      exact spec_l1_bad t o i hi hi4 n l r hp ho ht hl hR d (m + 1) k _ (by rw [List.length_append]; simp; omega) (by omega) (by omega) (next (fun h => absurd h c))
/-- What is linked, up to a part. -/
def accTo (t : List TP) (o : List Int) : Nat → List Int
  | 0 => []
  | i + 1 => accTo t o i ++ codes t o (rd_T107 t (i : Int)).f1 (rd_T107 t (i : Int)).f2 (rd_T107 t (i : Int)).f1.length
theorem accTo_len (t : List TP) (o : List Int) : ∀ i, (accTo t o i).length = atTo t i
  | 0 => rfl
  | i + 1 => by rw [accTo, List.length_append, codes_len, accTo_len t o i, atTo]
def badI (t : List TP) (i : Nat) : Bool := badP t (rd_T107 t (i : Int)).f2
def linkE (t : List TP) (o : List Int) : List Int × Bool := if (List.range t.length).any (badI t) = true then ([], false) else (accTo t o t.length ++ List.replicate (24 - atTo t t.length) 0, true)
theorem linkE_bad (t : List TP) (o : List Int) (i : Nat) (hi : i < t.length) (h : badI t i = true) : linkE t o = ([], false) := by
  unfold linkE; rw [if_pos]; rw [List.any_eq_true]; exact ⟨i, List.mem_range.2 hi, h⟩
theorem linkE_end (t : List TP) (o : List Int) (h : ∀ j, j < t.length → badI t j = false) : linkE t o = (accTo t o t.length ++ List.replicate (24 - atTo t t.length) 0, true) := by
  unfold linkE; rw [if_neg]; rw [Bool.not_eq_true, List.any_eq_false]
  intro j hj; rw [h j (List.mem_range.1 hj)]; simp
theorem badP_ex {t : List TP} {r : List TR} (h : badP t r = true) : ∃ m : Nat, m < r.length ∧ toOf t r (m : Int) < 0 := by
  unfold badP at h
  rw [List.any_eq_true] at h
  obtain ⟨m, h1, h2⟩ := h
  exact ⟨m, List.mem_range.1 h1, of_decide_eq_true h2⟩
theorem layB_parts {t : List TP} (h : layB t = true) : t.length ≤ 4 ∧ (∀ i, i < t.length → refsOk (rd_T107 t (i : Int)).f1 (rd_T107 t (i : Int)).f2 ∧ (rd_T107 t (i : Int)).f1.length ≤ 24 ∧ (rd_T107 t (i : Int)).f2.length ≤ 24) ∧ atTo t t.length ≤ 24 := by
  unfold layB at h
  rw [Bool.and_eq_true, Bool.and_eq_true, List.all_eq_true, decide_eq_true_eq, decide_eq_true_eq] at h
  refine ⟨h.1, fun i hi => ?_, h.2.2⟩
  have := h.2.1 i (List.mem_range.2 hi)
  unfold okP at this
  rw [Bool.and_eq_true] at this
  exact refsOk_of this.1
theorem atTo_mono (t : List TP) : ∀ i j, i ≤ j → atTo t i ≤ atTo t j := by
  intro i j h
  induction j with
  | zero => have : i = 0 := by omega
            subst this; exact Nat.le_refl _
  | succ j ih =>
    by_cases e : i = j + 1
    · subst e; exact Nat.le_refl _
    · have := ih (by omega); rw [atTo]; omega
theorem impl_l0 (t : List TP) (o : List Int) (ho : o.length = t.length) (hL : layB t = true) : ∀ (d i k : Nat), i + d = t.length → 100 * d + 10 < k → (∀ j, j < i → badI t j = false) →
    impl_Link.l0 k t o (accTo t o i) t (t.length : Int) (i : Int) = some (linkE t o)
  | 0, i, k, hi, hk, hb => by
    obtain ⟨k, rfl⟩ : ∃ m, k = m + 1 := ⟨k - 1, by omega⟩
    have e : i = t.length := by omega
    subst e
    obtain ⟨h1, h2, h3⟩ := layB_parts hL
    have ha := accTo_len t o t.length
    rw [impl_Link.l0, if_neg (by omega), wrap_small (by omega) (by omega), if_pos (by omega), if_pos (by omega), linkE_end t o hb, ha, show (24 - (atTo t t.length : Int)).toNat = 24 - atTo t t.length by omega]
  | d + 1, i, k, hi, hk, hb => by
    obtain ⟨h1, h2, h3⟩ := layB_parts hL
    obtain ⟨r1, r2, r3⟩ := h2 i (by omega)
    have ha := accTo_len t o i
    have hm := atTo_mono t i t.length (by omega)
    have hc : ∀ x : List TI, x.length ≤ 24 → impl_Ins_100.f x = some x := fun x hx => by unfold impl_Ins_100.f; rw [if_pos (by omega)]
    by_cases b : badI t i = true
    · obtain ⟨k, rfl⟩ : ∃ m, k = m + 1 := ⟨k - 1, by omega⟩
      rw [impl_Link.l0, if_pos (by omega), if_pos (by omega), if_pos (by omega), hc _ r2, Option.bind_some, linkE_bad t o i (by omega) b]
      obtain ⟨m, m1, m2⟩ := badP_ex b
      exact impl_l1_bad t o _ i _ _ ho r1 r2 r3 _ 0 k _ rfl (Nat.zero_add _) (by omega) ⟨m, Nat.zero_le _, m1, m2⟩
    · have b' : badI t i = false := by simpa using b
      obtain ⟨k, rfl⟩ : ∃ m, k = ((m + (rd_T107 t (i : Int)).f1.length + 1) + (rd_T107 t (i : Int)).f2.length + 1) + 1 := ⟨k - (rd_T107 t (i : Int)).f1.length - (rd_T107 t (i : Int)).f2.length - 3, by omega⟩
      rw [impl_Link.l0, if_pos (by omega), if_pos (by omega), if_pos (by omega), hc _ r2, Option.bind_some]
      have x1 := impl_l1 t o (accTo t o i) i _ _ ho r1 r2 r3 b' (rd_T107 t (i : Int)).f2.length 0 (k + (rd_T107 t (i : Int)).f1.length + 1) (Nat.zero_add _)
      rw [doneTo_0] at x1
      have x2 := impl_l2 t o (accTo t o i) i (rd_T107 t (i : Int)).f1 (rd_T107 t (i : Int)).f2 r2 (by omega) (by omega) (rd_T107 t (i : Int)).f1.length 0 k (Nat.zero_add _)
      have e0 : accTo t o i ++ codes t o (rd_T107 t (i : Int)).f1 (rd_T107 t (i : Int)).f2 0 = accTo t o i := by simp [codes]
      rw [e0] at x2
      refine Eq.trans x1 (Eq.trans x2 ?_)
      have := impl_l0 t o ho hL d (i + 1) k (by omega) (by omega) (fun j hj => by
        by_cases e : j = i
        · subst e; exact b'
        · exact hb j (by omega))
      rw [accTo] at this
      exact this
theorem spec_pad : ∀ (d : Nat) (x : List Int) (k : Nat), x.length + d = 24 → d < k → spec_Link.l2 k x = some (x ++ List.replicate d 0, true)
  | 0, x, k, hx, hk => by
    obtain ⟨k, rfl⟩ : ∃ m, k = m + 1 := ⟨k - 1, by omega⟩
    rw [spec_Link.l2, if_neg (by omega)]; simp
  | d + 1, x, k, hx, hk => by
    obtain ⟨k, rfl⟩ : ∃ m, k = m + 1 := ⟨k - 1, by omega⟩
    rw [spec_Link.l2, if_pos (by omega), if_pos (by omega), spec_pad d (x ++ [0]) k (by rw [List.length_append]; simp; omega) (by omega), List.append_assoc]; rfl
theorem spec_l0 (t : List TP) (o : List Int) (ho : o.length = t.length) (hL : layB t = true) : ∀ (d i k : Nat), i + d = t.length → 3000000 + 100 * d < k → (∀ j, j < i → badI t j = false) →
    spec_Link.l0 k t o true (accTo t o i) (i : Int) = some (linkE t o)
  | 0, i, k, hi, hk, hb => by
    obtain ⟨k, rfl⟩ : ∃ m, k = m + 2 := ⟨k - 2, by omega⟩
    have e : i = t.length := by omega
    subst e
    obtain ⟨h1, h2, h3⟩ := layB_parts hL
    have ha := accTo_len t o t.length
    rw [spec_Link.l0, if_neg (by omega), spec_Link.j1, if_neg (by simp), if_pos rfl, spec_pad (24 - atTo t t.length) _ k (by omega) (by omega), linkE_end t o hb]
  | d + 1, i, k, hi, hk, hb => by
    obtain ⟨h1, h2, h3⟩ := layB_parts hL
    obtain ⟨r1, r2, r3⟩ := h2 i (by omega)
    have ha := accTo_len t o i
    have hm := atTo_mono t i t.length (by omega)
    by_cases b : badI t i = true
    · obtain ⟨k, rfl⟩ : ∃ m, k = m + 2 := ⟨k - 2, by omega⟩
      rw [spec_Link.l0, if_pos (by omega), spec_Link.j1, if_pos rfl, linkE_bad t o i (by omega) b]
      obtain ⟨m, m1, m2⟩ := badP_ex b
      obtain ⟨a, a1, a2, a3⟩ := r1 m m1
      exact spec_l1_bad t o i (by omega) (by omega) (rd_T107 t (i : Int)).f0 (rd_T107 t (i : Int)).f1 (rd_T107 t (i : Int)).f2 rfl ho h1 r2 r3 _ 0 k _ (by omega) (Nat.zero_add _) (by omega) ⟨a, Nat.zero_le _, a2, by omega, by rw [a3]; exact m2⟩
    · have b' : badI t i = false := by simpa using b
      obtain ⟨k, rfl⟩ : ∃ m, k = (m + (rd_T107 t (i : Int)).f1.length + 1) + 1 + 1 := ⟨k - (rd_T107 t (i : Int)).f1.length - 3, by omega⟩
      rw [spec_Link.l0, if_pos (by omega), spec_Link.j1, if_pos rfl]
      have x1 := spec_l1 t o (accTo t o i) i (by omega) (by omega) (rd_T107 t (i : Int)).f0 (rd_T107 t (i : Int)).f1 (rd_T107 t (i : Int)).f2 rfl ho h1 r2 r3 b' (by omega) (rd_T107 t (i : Int)).f1.length 0 k (Nat.zero_add _) (by omega)
      have e0 : accTo t o i ++ codes t o (rd_T107 t (i : Int)).f1 (rd_T107 t (i : Int)).f2 0 = accTo t o i := by simp [codes]
      rw [e0] at x1
      refine Eq.trans x1 ?_
      have := spec_l0 t o ho hL d (i + 1) k (by omega) (by omega) (fun j hj => by
        by_cases e : j = i
        · subst e; exact b'
        · exact hb j (by omega))
      rw [accTo] at this
      exact this
def linkV (t : List TP) : List Int × Bool := if layB t = true then linkE t (outTo t t.length) else ([], false)
theorem implLink_eq (t : List TP) (hX : partsIn t) (k : Nat) (hk : 7000000 < k) : impl_Link.f k t = some (linkV t) := by
  unfold impl_Link.f linkV
  rw [implLayout_eq t hX k (by omega), Option.bind_some]
  unfold layV
  by_cases h : layB t = true
  · have h4 := (layB_parts h).1
    rw [if_pos h, if_pos h, if_pos rfl]
    exact impl_l0 t _ (outTo_len t _) h t.length 0 k (Nat.zero_add _) (by omega) (fun j hj => by omega)
  · rw [if_neg h, if_neg h]; rfl
theorem specLink_eq (t : List TP) (hX : partsIn t) (hl : t.length ≤ 1048576) (k : Nat) (hk : 7000000 < k) : spec_Link.f k t = some (linkV t) := by
  unfold spec_Link.f linkV
  rw [specLayout_eq t hX hl k (by omega), Option.bind_some]
  unfold layV
  by_cases h : layB t = true
  · have h4 := (layB_parts h).1
    rw [if_pos h, if_pos h]
    exact spec_l0 t _ (outTo_len t _) h t.length 0 k (Nat.zero_add _) (by omega) (fun j hj => by omega)
  · obtain ⟨k, rfl⟩ : ∃ m, k = m + 2 := ⟨k - 2, by omega⟩
    rw [if_neg h, if_neg h]
    dsimp only
    rw [spec_Link.l0]
    split
    · rw [spec_Link.j1, if_neg (by simp), if_neg (by simp)]
    · rw [spec_Link.j1, if_neg (by simp), if_neg (by simp)]
theorem linkV_len (t : List TP) : (linkV t).1.length ≤ 48 := by
  unfold linkV; split
  · rename_i h
    obtain ⟨_, _, h3⟩ := layB_parts h
    unfold linkE; split
    · simp
    · rw [List.length_append, accTo_len, List.length_replicate]; omega
  · simp
theorem FnExactLink : laws_FnExactLink.Pure := by
  rintro l ⟨hm, hw⟩
  obtain ⟨K, hK⟩ : ∃ K : Nat, 8000000 < K := ⟨8000001, by omega⟩
  refine ⟨K, ?_⟩
  unfold laws_FnExactLink.f
  have hin : ∀ x ∈ l, partIn x.f0 x.f1 x.f2 := fun x hx => by
    obtain ⟨h1, ⟨h2, _⟩, h3, h4⟩ := hw x hx
    exact ⟨h1, h2, h3, fun y hy => (h4 y hy).2⟩
  obtain ⟨r, e, _, hr⟩ := szPartS_ex l hm hin 1048576 (by omega) (by omega) K (by omega)
  rw [e, Option.bind_some]
  by_cases h : r < 0
  · rw [if_pos h]
  obtain ⟨hl, hx⟩ := hr (by omega)
  have e1 := toPartS_eq l hl hx K (by omega)
  have hL : (l.map toPartV).length ≤ 1048576 := by simpa using hl
  have hX : partsIn (l.map toPartV) := fun x hx' => by
    obtain ⟨y, hy, rfl⟩ := List.mem_map.1 hx'
    have := hx y hy
    refine ⟨this.1, by simpa [toPartV] using this.2.1, by simpa [toPartV] using this.2.2.1, fun z hz => ?_⟩
    obtain ⟨u, hu, rfl⟩ := List.mem_map.1 hz
    exact this.2.2.2 u hu
  generalize l.map toPartV = t at e1 hL hX
  have e2 := specLink_eq t hX hL K (by omega)
  have e3 := implLink_eq t hX K (by omega)
  have hv := linkV_len t
  generalize linkV t = v at e2 e3 hv
  obtain ⟨o, b⟩ := v
  have hv' : o.length ≤ 48 := hv
  have e4 : laws_eqIntS.f K o o = some true := by rw [eqIntS_eq o o (by omega) K (by omega), decide_eq_true rfl]
  have e5 := eqPartS_same t hL (fun x hx => ⟨(hX x hx).2.1, (hX x hx).2.2.1⟩) K (by omega)
  obtain ⟨r', v', e6, h6⟩ := markPartS_ex t.length hL t.length 0 t 1 K rfl (by omega) (fun j _ hj => by rw [rdPart t j hj]; exact ⟨(hX _ (List.getElem_mem hj)).2.1, (hX _ (List.getElem_mem hj)).2.2.1⟩) (by omega) (by omega) (by omega)
  have e6' : laws_markPartS.f K t 1 = some (r', v') := e6
  have e7 := markIntS_eq o 1 (by omega) (by omega) (by omega) K (by omega)
  have e8 := heldIntS_eq 1 o.length (by omega) (by omega) (by omega) K (by omega)
  rw [if_neg h, e1, Option.bind_some, e2, Option.bind_some, Option.bind_some, e3, Option.bind_some]
  try dsimp only
  rw [e4, Option.bind_some, if_pos rfl, bne_self_eq_false, if_neg (by simp), Option.bind_some, e5, Option.bind_some, if_pos rfl, e6', Option.bind_some]
  try dsimp only
  rw [if_neg (by omega), Option.bind_some, if_pos rfl, e7, Option.bind_some]
  try dsimp only
  rw [e8, Option.bind_some, if_neg (by omega), if_pos rfl, Option.bind_some, e3, Option.bind_some]
  try dsimp only
  rw [e4, Option.bind_some, if_pos rfl, bne_self_eq_false, if_neg (by simp), Option.bind_some, if_neg (by omega), if_pos rfl]
end Go.Proofs.Ytbbieaglfgipnaa.Pure
