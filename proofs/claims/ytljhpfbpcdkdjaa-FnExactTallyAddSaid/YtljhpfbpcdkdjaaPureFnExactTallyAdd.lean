/- For all tallies, the program's TallyAdd returns what the reference's TallyAdd returns: no conditions. -/
import Derived.Test.YtljhpfbpcdkdjaaPFnExactTallyAddx2
namespace Go.Proofs.Ytljhpfbpcdkdjaa.Pure
open Go.RowKit Go.Proofs.Ytljhpfbpcdkdjaa.PFnExactTallyAdd Go.Proofs.YtljhpfbpcdkdjaaW.PrintWords Go.Proofs.YtljhpfbpcdkdjaaW.PrintLast
set_option linter.unusedVariables false
set_option linter.unusedSimpArgs false

theorem wrap_small {x : Int} (h0 : -9223372036854775808 ≤ x) (h : x ≤ 9223372036854775807) : wrap64 x = x := by
  unfold wrap64; omega
theorem wrap_succ {i : Nat} (h : i < 4611686018427387904) : wrap64 ((i : Int) + 1) = ((i + 1 : Nat) : Int) := by
  unfold wrap64; omega
theorem rd_nat (l : List Int) (i : Nat) (h : i < l.length) : rd l (i : Int) = l[i] := by
  unfold rd; simp [List.getD, h]
theorem rd_mem (l : List Int) (i : Nat) (h : i < l.length) : rd l (i : Int) ∈ l := by
  rw [rd_nat l i h]; exact List.getElem_mem h
/-- A loop whose state is known ahead of each round. -/
theorem for_st {σ ρ : Type} (n : Nat) (L : Nat → Nat → σ → Option ρ) (st : Nat → σ) (r : ρ) (hs : ∀ k i, i < n → L (k + 1) i (st i) = L k (i + 1) (st (i + 1))) (he : ∀ k, L (k + 1) n (st n) = some r) :
    ∀ (k i : Nat), i ≤ n → n < i + k → L k i (st i) = some r
  | 0, i, hi, hk => by omega
  | k + 1, i, hi, hk => by
    by_cases h : i < n
    · rw [hs k i h]; exact for_st n L st r hs he k (i + 1) (by omega) (by omega)
    · have : i = n := by omega
      subst this; exact he k
/-- A loop that ends at the first place where p holds. -/
theorem for_find {ρ : Type} (n : Nat) (L : Nat → Nat → Option ρ) (p : Nat → Prop) (b : Nat → ρ) (r : ρ) (hs : ∀ k i, i < n → ¬ p i → L (k + 1) i = L k (i + 1)) (hb : ∀ k i, i < n → p i → L (k + 1) i = some (b i)) (he : ∀ k, L (k + 1) n = some r) :
    ∀ (k i : Nat), i ≤ n → n < i + k → (∃ j, i ≤ j ∧ j < n ∧ p j ∧ (∀ m, i ≤ m → m < j → ¬ p m) ∧ L k i = some (b j)) ∨ (∀ j, i ≤ j → j < n → ¬ p j) ∧ L k i = some r
  | 0, i, hi, hk => by omega
  | k + 1, i, hi, hk => by
    by_cases h : i < n
    · by_cases hp : p i
      · exact .inl ⟨i, Nat.le_refl _, h, hp, fun m h1 h2 => by omega, hb k i h hp⟩
      · rw [hs k i h hp]
        rcases for_find n L p b r hs hb he k (i + 1) (by omega) (by omega) with ⟨j, h1, h2, h3, h4, h5⟩ | ⟨h1, h2⟩
        · refine .inl ⟨j, by omega, h2, h3, fun m hm1 hm2 => ?_, h5⟩
          by_cases e : m = i
          · subst e; exact hp
          · exact h4 m (by omega) hm2
        · refine .inr ⟨fun j hj1 hj2 => ?_, h2⟩
          by_cases e : j = i
          · subst e; exact hp
          · exact h1 j (by omega) hj2
    · have : i = n := by omega
      subst this; exact .inr ⟨fun j h1 h2 => by omega, he k⟩
/-- The same for a Bool: do all places pass? -/
theorem for_all {n : Nat} {L : Nat → Nat → Option Bool} (p : Nat → Prop) (hs : ∀ k i, i < n → p i → L (k + 1) i = L k (i + 1)) (hb : ∀ k i, i < n → ¬ p i → L (k + 1) i = some false) (c : Bool) (he : ∀ k, L (k + 1) n = some c) {q : Bool}
    (hq : q = true ↔ (∀ j, j < n → p j) ∧ c = true) (k : Nat) (hk : n < k) : L k 0 = some q := by
  rcases for_find n L (fun i => ¬ p i) (fun _ => false) c (fun k i h hp => hs k i h (Classical.not_not.1 hp)) (fun k i h hp => hb k i h hp) he k 0 (Nat.zero_le _) (by omega) with ⟨j, _, h2, h3, _, h5⟩ | ⟨h1, h2⟩
  · rw [h5]; congr 1; symm
    rw [Bool.eq_false_iff]; intro hh; exact h3 ((hq.1 hh).1 j h2)
  · rw [h2]; congr 1
    have : ∀ j, j < n → p j := fun j hj => Classical.not_not.1 (h1 j (Nat.zero_le _) hj)
    rw [Bool.eq_iff_iff, hq]; exact ⟨fun h => ⟨this, h⟩, fun h => h.2⟩
/-- What is written, place by place. -/
theorem set_step {α : Type} (a b : List α) (i : Nat) (hi : i < a.length) (hb : b.length = a.length) : (a.take i ++ b.drop i).set i (a[i]'hi) = a.take (i + 1) ++ b.drop (i + 1) := by
  rw [List.set_append_right _ _ (by simp; omega), List.length_take, Nat.min_eq_left (by omega), Nat.sub_self, List.take_succ_eq_append_getElem hi, List.append_assoc]
  congr 1
  rw [List.drop_eq_getElem_cons (by omega)]
  rfl
theorem snoc_step {α : Type} (a : List α) (i : Nat) (hi : i < a.length) : a.take i ++ [a[i]'hi] = a.take (i + 1) := by
  rw [List.take_succ_eq_append_getElem hi]
theorem eq_iff_all (a b : List Int) (h : a.length = b.length) : a = b ↔ ∀ j, j < a.length → rd a (j : Int) = rd b (j : Int) := by
  constructor
  · rintro rfl j _; rfl
  · intro hh; refine List.ext_getElem h (fun j h1 h2 => ?_)
    have := hh j h1
    rwa [rd_nat a j h1, rd_nat b j h2] at this
/-- What marks hold: s, s + 1, .. -/
def iota (s : Int) (n : Nat) : List Int := (List.range n).map fun (i : Nat) => s + (i : Int)
theorem iota_length (s : Int) (n : Nat) : (iota s n).length = n := by simp [iota]
theorem iota_get (s : Int) (n i : Nat) (h : i < n) : (iota s n)[i]'(by rw [iota_length]; exact h) = s + i := by simp [iota]
/-- The same as bytes. -/
def iota8 (s : Int) (n : Nat) : List Int := (List.range n).map fun (i : Nat) => (s + (i : Int)) % 256
theorem iota8_length (s : Int) (n : Nat) : (iota8 s n).length = n := by simp [iota8]
theorem iota8_get (s : Int) (n i : Nat) (h : i < n) : (iota8 s n)[i]'(by rw [iota8_length]; exact h) = (s + i) % 256 := by simp [iota8]
theorem wraps_i64 (n : Int) (h0 : 0 ≤ n) (h1 : n < 2 ^ 62) : IntKind.i64.wrap n = n := by rw [IntKind.wrap_i64]; omega
theorem and255 (x : Int) (h0 : 0 ≤ x) (h : x ≤ 65535) : Go.bits .and .i64 x 255 = x % 256 := bits_mask .i64 62 (by decide) wraps_i64 8 (by decide) x h0 (by omega)
theorem FnExactTallyAdd : laws_FnExactTallyAdd.Pure := by
  intro a0 a1 a2 a3 a4 a5 a6 b0 b1 b2 b3 b4 b5 b6 _ _
  refine ⟨1, ?_⟩
  simp [laws_FnExactTallyAdd.f, laws_FnExactTallyAdd.j0, laws_toTally.f, spec_TallyAdd.f, impl_TallyAdd.f, laws_eqTally.f]
end Go.Proofs.Ytljhpfbpcdkdjaa.Pure
