/- For all bytes, the program's MemOf returns what the reference's MemOf returns, keeps its argument, and shares no memory: no conditions. -/
import Derived.Test.YtljhpfbpcdkdjaaPFnExactMemOfx3
namespace Go.Proofs.Ytljhpfbpcdkdjaa.Pure
open Go.RowKit Go.Proofs.Ytljhpfbpcdkdjaa.PFnExactMemOf Go.Proofs.YtljhpfbpcdkdjaaW.PrintWords Go.Proofs.YtljhpfbpcdkdjaaW.PrintLast

theorem wrap_small {x : Int} (h0 : -9223372036854775808 ≤ x) (h : x ≤ 9223372036854775807) : wrap64 x = x := by
  unfold wrap64; omega
theorem wrap_succ {i : Nat} (h : i < 4611686018427387904) : wrap64 ((i : Int) + 1) = ((i + 1 : Nat) : Int) := by
  unfold wrap64; omega
theorem rd_nat (l : List Int) (i : Nat) (h : i < l.length) : rd l (i : Int) = l[i] := by
  unfold rd; simp [List.getD, h]
theorem rd_mem (l : List Int) (i : Nat) (h : i < l.length) : rd l (i : Int) ∈ l := by
  rw [rd_nat l i h]; exact List.getElem_mem h
/-- A loop whose state is known ahead of each round. -/
theorem for_st {σ ρ : Type} (n : Nat) (L : Nat → Nat → σ → Option ρ) (st : Nat → σ) (r : ρ) (hs : ∀ k i, i < n → L (k + 1) i (st i) = L k (i + 1) (st (i + 1))) (he : ∀ k, L (k + 1) n (st n) = some r) :
    ∀ (k i : Nat), i ≤ n → n < i + k → L k i (st i) = some r
  | 0, i, hi, hk => by omega
  | k + 1, i, hi, hk => by
    by_cases h : i < n
    · rw [hs k i h]; exact for_st n L st r hs he k (i + 1) (by omega) (by omega)
    · have : i = n := by omega
      subst this; exact he k
/-- A loop that ends at the first place where p holds. -/
theorem for_find {ρ : Type} (n : Nat) (L : Nat → Nat → Option ρ) (p : Nat → Prop) (b : Nat → ρ) (r : ρ) (hs : ∀ k i, i < n → ¬ p i → L (k + 1) i = L k (i + 1)) (hb : ∀ k i, i < n → p i → L (k + 1) i = some (b i)) (he : ∀ k, L (k + 1) n = some r) :
    ∀ (k i : Nat), i ≤ n → n < i + k → (∃ j, i ≤ j ∧ j < n ∧ p j ∧ (∀ m, i ≤ m → m < j → ¬ p m) ∧ L k i = some (b j)) ∨ (∀ j, i ≤ j → j < n → ¬ p j) ∧ L k i = some r
  | 0, i, hi, hk => by omega
  | k + 1, i, hi, hk => by
    by_cases h : i < n
    · by_cases hp : p i
      · exact .inl ⟨i, Nat.le_refl _, h, hp, fun m h1 h2 => by omega, hb k i h hp⟩
      · rw [hs k i h hp]
        rcases for_find n L p b r hs hb he k (i + 1) (by omega) (by omega) with ⟨j, h1, h2, h3, h4, h5⟩ | ⟨h1, h2⟩
        · refine .inl ⟨j, by omega, h2, h3, fun m hm1 hm2 => ?_, h5⟩
          by_cases e : m = i
          · subst e; exact hp
          · exact h4 m (by omega) hm2
        · refine .inr ⟨fun j hj1 hj2 => ?_, h2⟩
          by_cases e : j = i
          · subst e; exact hp
          · exact h1 j (by omega) hj2
    · have : i = n := by omega
      subst this; exact .inr ⟨fun j h1 h2 => by omega, he k⟩
/-- The same for a Bool: do all places pass? -/
theorem for_all {n : Nat} {L : Nat → Nat → Option Bool} (p : Nat → Prop) (hs : ∀ k i, i < n → p i → L (k + 1) i = L k (i + 1)) (hb : ∀ k i, i < n → ¬ p i → L (k + 1) i = some false) (c : Bool) (he : ∀ k, L (k + 1) n = some c) {q : Bool}
    (hq : q = true ↔ (∀ j, j < n → p j) ∧ c = true) (k : Nat) (hk : n < k) : L k 0 = some q := by
  rcases for_find n L (fun i => ¬ p i) (fun _ => false) c (fun k i h hp => hs k i h (Classical.not_not.1 hp)) (fun k i h hp => hb k i h hp) he k 0 (Nat.zero_le _) (by omega) with ⟨j, _, h2, h3, _, h5⟩ | ⟨h1, h2⟩
  · rw [h5]; congr 1; symm
    rw [Bool.eq_false_iff]; intro hh; exact h3 ((hq.1 hh).1 j h2)
  · rw [h2]; congr 1
    have : ∀ j, j < n → p j := fun j hj => Classical.not_not.1 (h1 j (Nat.zero_le _) hj)
    rw [Bool.eq_iff_iff, hq]; exact ⟨fun h => ⟨this, h⟩, fun h => h.2⟩
/-- What is written, place by place. -/
theorem set_step {α : Type} (a b : List α) (i : Nat) (hi : i < a.length) (hb : b.length = a.length) : (a.take i ++ b.drop i).set i (a[i]'hi) = a.take (i + 1) ++ b.drop (i + 1) := by
  rw [List.set_append_right _ _ (by simp; omega), List.length_take, Nat.min_eq_left (by omega), Nat.sub_self, List.take_succ_eq_append_getElem hi, List.append_assoc]
  congr 1
  rw [List.drop_eq_getElem_cons (by omega)]
  rfl
theorem snoc_step {α : Type} (a : List α) (i : Nat) (hi : i < a.length) : a.take i ++ [a[i]'hi] = a.take (i + 1) := by
  rw [List.take_succ_eq_append_getElem hi]
theorem eq_iff_all (a b : List Int) (h : a.length = b.length) : a = b ↔ ∀ j, j < a.length → rd a (j : Int) = rd b (j : Int) := by
  constructor
  · rintro rfl j _; rfl
  · intro hh; refine List.ext_getElem h (fun j h1 h2 => ?_)
    have := hh j h1
    rwa [rd_nat a j h1, rd_nat b j h2] at this
/-- What marks hold: s, s + 1, .. -/
def iota (s : Int) (n : Nat) : List Int := (List.range n).map fun (i : Nat) => s + (i : Int)
theorem iota_length (s : Int) (n : Nat) : (iota s n).length = n := by simp [iota]
theorem iota_get (s : Int) (n i : Nat) (h : i < n) : (iota s n)[i]'(by rw [iota_length]; exact h) = s + i := by simp [iota]
/-- The same as bytes. -/
def iota8 (s : Int) (n : Nat) : List Int := (List.range n).map fun (i : Nat) => (s + (i : Int)) % 256
theorem iota8_length (s : Int) (n : Nat) : (iota8 s n).length = n := by simp [iota8]
theorem iota8_get (s : Int) (n i : Nat) (h : i < n) : (iota8 s n)[i]'(by rw [iota8_length]; exact h) = (s + i) % 256 := by simp [iota8]
theorem toByteS_eq (l : List Int) (hl : l.length ≤ 1048576) (k : Nat) (hk : l.length < k) : laws_toByteS.f k l = some l := by
  unfold laws_toByteS.f
  rw [if_pos (by omega), if_pos (by simp; omega)]
  have h := for_st l.length (fun k i s => laws_toByteS.l0 k l s (i : Int)) (fun i => l.take i ++ (List.replicate l.length 0).drop i) l ?_ ?_ k 0 (Nat.zero_le _) (by omega)
  · simpa using h
  · intro k i hi
    simp only [laws_toByteS.l0]
    rw [if_pos (by omega), if_pos (by omega), if_pos (by simp; omega), wrap_succ (by omega), rd_nat l i hi]
    simp only [Int.toNat_natCast]
    rw [set_step _ _ _ hi (by simp)]
  · intro k
    simp only [laws_toByteS.l0]
    rw [if_neg (by omega)]; simp
theorem eqIntS_eq (a b : List Int) (hl : a.length ≤ 1048576) (k : Nat) (hk : a.length < k) : laws_eqIntS.f k a b = some (decide (a = b)) := by
  unfold laws_eqIntS.f
  by_cases h : a.length = b.length
  · rw [if_pos (by omega)]
    refine for_all (L := fun k i => laws_eqIntS.l0 k a b (i : Int)) (n := a.length) (fun j => rd a (j : Int) = rd b (j : Int)) ?_ ?_ true ?_ ?_ k hk
    · intro k i hi hp
      simp only [laws_eqIntS.l0]
      rw [if_pos (by omega), if_pos (by omega), if_pos (by omega), if_pos hp, wrap_succ (by omega)]
    · intro k i hi hp
      simp only [laws_eqIntS.l0]
      rw [if_pos (by omega), if_pos (by omega), if_pos (by omega), if_neg hp]
    · intro k
      simp only [laws_eqIntS.l0]
      rw [if_neg (by omega)]
    · rw [decide_eq_true_iff, eq_iff_all a b h]; simp
  · rw [if_neg (by omega)]
    have : a ≠ b := fun hh => h (by rw [hh])
    simp [this]
theorem eqByteS_eq (a b : List Int) (hl : a.length ≤ 2097152) (k : Nat) (hk : a.length < k) : laws_eqByteS.f k a b = some (decide (a = b)) := by
  unfold laws_eqByteS.f
  by_cases h : a.length = b.length
  · rw [if_pos (by omega)]
    refine for_all (L := fun k i => laws_eqByteS.l0 k a b (i : Int)) (n := a.length) (fun j => rd a (j : Int) = rd b (j : Int)) ?_ ?_ true ?_ ?_ k hk
    · intro k i hi hp
      simp only [laws_eqByteS.l0]
      rw [if_pos (by omega), if_pos (by omega), if_pos (by omega), if_pos hp, wrap_succ (by omega)]
    · intro k i hi hp
      simp only [laws_eqByteS.l0]
      rw [if_pos (by omega), if_pos (by omega), if_pos (by omega), if_neg hp]
    · intro k
      simp only [laws_eqByteS.l0]
      rw [if_neg (by omega)]
    · rw [decide_eq_true_iff, eq_iff_all a b h]; simp
  · rw [if_neg (by omega)]
    have : a ≠ b := fun hh => h (by rw [hh])
    simp [this]
theorem markIntS_eq (l : List Int) (s : Int) (h0 : 0 ≤ s) (h1 : s ≤ 4294967296) (hl : l.length ≤ 2097152) (k : Nat) (hk : l.length < k) : laws_markIntS.f k l s = some (s + l.length, iota s l.length) := by
  unfold laws_markIntS.f
  have h := for_st l.length (fun k i (t : List Int × Int) => laws_markIntS.l0 k t.1 t.2 (i : Int)) (fun i => ((iota s l.length).take i ++ l.drop i, s + (i : Int))) (s + l.length, iota s l.length) ?_ ?_ k 0 (Nat.zero_le _) (by omega)
  · simpa using h
  · intro k i hi
    simp only [laws_markIntS.l0]
    rw [if_pos (by simp [iota_length]; omega), if_pos (by omega), wrap_succ (by omega), wrap_small (by omega) (by omega)]
    simp only [Int.toNat_natCast]
    rw [← iota_get s l.length i hi, set_step _ _ _ (by rw [iota_length]; exact hi) (by rw [iota_length])]
    congr 1
    rw [iota_get s l.length i hi]; omega
  · intro k
    simp only [laws_markIntS.l0]
    rw [if_neg (by simp [iota_length])]
    simp [List.take_of_length_le, iota_length]
theorem heldIntS_eq (s : Int) (n : Nat) (h0 : 0 ≤ s) (h1 : s ≤ 4294967296) (hl : n ≤ 2097152) (k : Nat) (hk : n < k) : laws_heldIntS.f k (iota s n) s = some (s + n) := by
  unfold laws_heldIntS.f
  have h := for_st n (fun k i (t : Int) => laws_heldIntS.l0 k (iota s n) t (i : Int)) (fun i => s + (i : Int)) (s + n) ?_ ?_ k 0 (Nat.zero_le _) (by omega)
  · simpa using h
  · intro k i hi
    simp only [laws_heldIntS.l0]
    rw [if_pos (by simp [iota_length]; omega), if_pos (by omega), rd_nat _ _ (by rw [iota_length]; exact hi), if_pos (iota_get s n i hi), wrap_succ (by omega), wrap_small (by omega) (by omega)]
    congr 1; omega
  · intro k
    simp only [laws_heldIntS.l0]
    rw [if_neg (by simp [iota_length])]
theorem markByteS_eq (l : List Int) (s : Int) (h0 : 0 ≤ s) (h1 : s ≤ 4294967296) (hl : l.length ≤ 2097152) (k : Nat) (hk : l.length < k) : laws_markByteS.f k l s = some (s + l.length, iota8 s l.length) := by
  unfold laws_markByteS.f
  have h := for_st l.length (fun k i (t : List Int × Int) => laws_markByteS.l0 k t.1 t.2 (i : Int)) (fun i => ((iota8 s l.length).take i ++ l.drop i, s + (i : Int))) (s + l.length, iota8 s l.length) ?_ ?_ k 0 (Nat.zero_le _) (by omega)
  · simpa using h
  · intro k i hi
    simp only [laws_markByteS.l0]
    rw [if_pos (by simp [iota8_length]; omega), if_pos (by omega), wrap_succ (by omega), wrap_small (by omega) (by omega)]
    simp only [Int.toNat_natCast]
    rw [← iota8_get s l.length i hi, set_step _ _ _ (by rw [iota8_length]; exact hi) (by rw [iota8_length])]
    congr 1
    omega
  · intro k
    simp only [laws_markByteS.l0]
    rw [if_neg (by simp [iota8_length])]
    simp [List.take_of_length_le, iota8_length]
/-- Word i of bytes, two each. -/
def wordAt (l : List Int) (i : Nat) : Int := Go.bits .or .i64 (wrap64 ((wrap64 (rd l ((2 * i : Nat) : Int))) * 256)) (wrap64 (rd l ((2 * i + 1 : Nat) : Int)))
def wordsOf (l : List Int) : List Int := (List.range (l.length / 2)).map (wordAt l)
theorem wordsOf_length (l : List Int) : (wordsOf l).length = l.length / 2 := by simp [wordsOf]
theorem l22Words_eq (l : List Int) (hl : l.length ≤ 2097152) (k : Nat) (hk : l.length < k) : spec_l22Words.f k l = some (wordsOf l) := by
  unfold spec_l22Words.f
  have h := for_st (l.length / 2) (fun k i (s : List Int) => spec_l22Words.l0 k l s ((2 * i : Nat) : Int)) (fun i => (List.range i).map (wordAt l)) (wordsOf l) ?_ ?_ k 0 (Nat.zero_le _) (by omega)
  · simpa using h
  · intro k i hi
    simp only [spec_l22Words.l0]
    have e1 : wrap64 (((2 * i : Nat) : Int) + 1) = ((2 * i + 1 : Nat) : Int) := by unfold wrap64; omega
    have e2 : wrap64 (((2 * i : Nat) : Int) + 2) = ((2 * (i + 1) : Nat) : Int) := by unfold wrap64; omega
    rw [e1, e2, if_pos (by omega), if_pos (by omega), if_pos (by omega), if_pos (by omega), if_pos (by simp; omega), List.range_succ, List.map_append]
    rfl
  · intro k
    simp only [spec_l22Words.l0]
    rw [if_neg (by unfold wrap64; omega)]
    rfl
theorem wordsIn_same (l : List Int) : ∀ k x3 x4, impl_wordsIn.l0 k l x3 x4 = spec_l22Words.l0 k l x3 x4
  | 0, _, _ => rfl
  | k + 1, x3, x4 => by simp only [impl_wordsIn.l0, spec_l22Words.l0, wordsIn_same l k]
theorem wordsIn_eq (l : List Int) (hl : l.length ≤ 2097152) (k : Nat) (hk : l.length < k) : impl_wordsIn.f k l = some (wordsOf l) := by
  rw [← l22Words_eq l hl k hk]; exact wordsIn_same l k _ _
theorem FnExactMemOf : laws_FnExactMemOf.Pure := by
  intro l _ _ _
  obtain ⟨K, hK⟩ : ∃ K : Nat, 3000000 ≤ K := ⟨_, Nat.le_refl _⟩
  refine ⟨K + 4, ?_⟩
  unfold laws_FnExactMemOf.f
  by_cases hb : (l.length : Int) > 1048576
  · rw [if_pos hb]
  have hl : l.length ≤ 1048576 := by omega
  have hi : ∀ k, l.length < k → ∃ ws b, ws.length ≤ 1048576 ∧ impl_MemOf.f k l = some (ws, b) ∧ spec_MemOf.f k l = some (ws, b) ∧ (∀ k', l.length < k' → impl_MemOf.f k' l = some (ws, b)) := by
    intro k hk
    unfold impl_MemOf.f spec_MemOf.f
    by_cases h : (l.length : Int) = 48
    · refine ⟨wordsOf l, true, by rw [wordsOf_length]; omega, ?_, ?_, fun k' hk' => ?_⟩
      · rw [if_pos h, wordsIn_eq l (by omega) k hk]; rfl
      · rw [if_pos h, l22Words_eq l (by omega) k hk]; rfl
      · rw [if_pos h, wordsIn_eq l (by omega) k' hk']; rfl
    · exact ⟨[], false, by simp, by rw [if_neg h], by rw [if_neg h], fun k' hk' => by rw [if_neg h]⟩
  obtain ⟨ws, b, hw, _, h2, h3⟩ := hi (K + 4) (by omega)
  rw [if_neg hb]
  have e0 : ∀ j, impl_MemOf.f (K + j) l = some (ws, b) := fun j => h3 _ (by omega)
  have e1 : ∀ j, laws_toByteS.f (K + j) l = some l := fun j => toByteS_eq l hl _ (by omega)
  have e2 : ∀ j, laws_eqByteS.f (K + j) l l = some true := fun j => by rw [eqByteS_eq l l (by omega) _ (by omega), decide_eq_true rfl]
  have e3 : ∀ j, laws_eqIntS.f (K + j) ws ws = some true := fun j => by rw [eqIntS_eq ws ws (by omega) _ (by omega), decide_eq_true rfl]
  have e4 : ∀ j, laws_markByteS.f (K + j) l 1 = some (1 + (l.length : Int), iota8 1 l.length) := fun j => markByteS_eq l 1 (by omega) (by omega) (by omega) _ (by omega)
  have e5 : ∀ j, laws_markIntS.f (K + j) ws 1 = some (1 + (ws.length : Int), iota 1 ws.length) := fun j => markIntS_eq ws 1 (by omega) (by omega) (by omega) _ (by omega)
  have e6 : ∀ j, laws_heldIntS.f (K + j) (iota 1 ws.length) 1 = some (1 + (ws.length : Int)) := fun j => heldIntS_eq 1 ws.length (by omega) (by omega) (by omega) _ (by omega)
  have n1 : ¬ (1 + (l.length : Int)) < 0 := by omega
  have n2 : ¬ (1 + (ws.length : Int)) < 0 := by omega
  simp only [laws_FnExactMemOf.j0, laws_FnExactMemOf.j1, laws_FnExactMemOf.j2, e0, e1, e2, e3, e4, e5, e6, h2, Option.bind_some, if_true, bne_self_eq_false, Bool.false_eq_true, if_false, n1, n2]
end Go.Proofs.Ytljhpfbpcdkdjaa.Pure
