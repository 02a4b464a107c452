/- For all harts, the program's AllHalt returns what the reference's AllHalt returns, and keeps its argument: no conditions. -/
import Derived.Test.YtljhpfbpcdkdjaaPFnExactAllHaltx2
namespace Go.Proofs.Ytljhpfbpcdkdjaa.Pure
open Go.RowKit Go.Proofs.Ytljhpfbpcdkdjaa.PFnExactAllHalt Go.Proofs.YtljhpfbpcdkdjaaW.PrintWords Go.Proofs.YtljhpfbpcdkdjaaW.PrintLast
set_option linter.unusedVariables false
set_option linter.unusedSimpArgs false

theorem wrap_small {x : Int} (h0 : -9223372036854775808 ≤ x) (h : x ≤ 9223372036854775807) : wrap64 x = x := by
  unfold wrap64; omega
theorem wrap_succ {i : Nat} (h : i < 4611686018427387904) : wrap64 ((i : Int) + 1) = ((i + 1 : Nat) : Int) := by
  unfold wrap64; omega
theorem rd_nat (l : List Int) (i : Nat) (h : i < l.length) : rd l (i : Int) = l[i] := by
  unfold rd; simp [List.getD, h]
theorem rd_mem (l : List Int) (i : Nat) (h : i < l.length) : rd l (i : Int) ∈ l := by
  rw [rd_nat l i h]; exact List.getElem_mem h
/-- A loop whose state is known ahead of each round. -/
theorem for_st {σ ρ : Type} (n : Nat) (L : Nat → Nat → σ → Option ρ) (st : Nat → σ) (r : ρ) (hs : ∀ k i, i < n → L (k + 1) i (st i) = L k (i + 1) (st (i + 1))) (he : ∀ k, L (k + 1) n (st n) = some r) :
    ∀ (k i : Nat), i ≤ n → n < i + k → L k i (st i) = some r
  | 0, i, hi, hk => by omega
  | k + 1, i, hi, hk => by
    by_cases h : i < n
    · rw [hs k i h]; exact for_st n L st r hs he k (i + 1) (by omega) (by omega)
    · have : i = n := by omega
      subst this; exact he k
/-- A loop that ends at the first place where p holds. -/
theorem for_find {ρ : Type} (n : Nat) (L : Nat → Nat → Option ρ) (p : Nat → Prop) (b : Nat → ρ) (r : ρ) (hs : ∀ k i, i < n → ¬ p i → L (k + 1) i = L k (i + 1)) (hb : ∀ k i, i < n → p i → L (k + 1) i = some (b i)) (he : ∀ k, L (k + 1) n = some r) :
    ∀ (k i : Nat), i ≤ n → n < i + k → (∃ j, i ≤ j ∧ j < n ∧ p j ∧ (∀ m, i ≤ m → m < j → ¬ p m) ∧ L k i = some (b j)) ∨ (∀ j, i ≤ j → j < n → ¬ p j) ∧ L k i = some r
  | 0, i, hi, hk => by omega
  | k + 1, i, hi, hk => by
    by_cases h : i < n
    · by_cases hp : p i
      · exact .inl ⟨i, Nat.le_refl _, h, hp, fun m h1 h2 => by omega, hb k i h hp⟩
      · rw [hs k i h hp]
        rcases for_find n L p b r hs hb he k (i + 1) (by omega) (by omega) with ⟨j, h1, h2, h3, h4, h5⟩ | ⟨h1, h2⟩
        · refine .inl ⟨j, by omega, h2, h3, fun m hm1 hm2 => ?_, h5⟩
          by_cases e : m = i
          · subst e; exact hp
          · exact h4 m (by omega) hm2
        · refine .inr ⟨fun j hj1 hj2 => ?_, h2⟩
          by_cases e : j = i
          · subst e; exact hp
          · exact h1 j (by omega) hj2
    · have : i = n := by omega
      subst this; exact .inr ⟨fun j h1 h2 => by omega, he k⟩
/-- The same for a Bool: do all places pass? -/
theorem for_all {n : Nat} {L : Nat → Nat → Option Bool} (p : Nat → Prop) (hs : ∀ k i, i < n → p i → L (k + 1) i = L k (i + 1)) (hb : ∀ k i, i < n → ¬ p i → L (k + 1) i = some false) (c : Bool) (he : ∀ k, L (k + 1) n = some c) {q : Bool}
    (hq : q = true ↔ (∀ j, j < n → p j) ∧ c = true) (k : Nat) (hk : n < k) : L k 0 = some q := by
  rcases for_find n L (fun i => ¬ p i) (fun _ => false) c (fun k i h hp => hs k i h (Classical.not_not.1 hp)) (fun k i h hp => hb k i h hp) he k 0 (Nat.zero_le _) (by omega) with ⟨j, _, h2, h3, _, h5⟩ | ⟨h1, h2⟩
  · rw [h5]; congr 1; symm
    rw [Bool.eq_false_iff]; intro hh; exact h3 ((hq.1 hh).1 j h2)
  · rw [h2]; congr 1
    have : ∀ j, j < n → p j := fun j hj => Classical.not_not.1 (h1 j (Nat.zero_le _) hj)
    rw [Bool.eq_iff_iff, hq]; exact ⟨fun h => ⟨this, h⟩, fun h => h.2⟩
/-- What is written, place by place. -/
theorem set_step {α : Type} (a b : List α) (i : Nat) (hi : i < a.length) (hb : b.length = a.length) : (a.take i ++ b.drop i).set i (a[i]'hi) = a.take (i + 1) ++ b.drop (i + 1) := by
  rw [List.set_append_right _ _ (by simp; omega), List.length_take, Nat.min_eq_left (by omega), Nat.sub_self, List.take_succ_eq_append_getElem hi, List.append_assoc]
  congr 1
  rw [List.drop_eq_getElem_cons (by omega)]
  rfl
theorem snoc_step {α : Type} (a : List α) (i : Nat) (hi : i < a.length) : a.take i ++ [a[i]'hi] = a.take (i + 1) := by
  rw [List.take_succ_eq_append_getElem hi]
theorem eq_iff_all (a b : List Int) (h : a.length = b.length) : a = b ↔ ∀ j, j < a.length → rd a (j : Int) = rd b (j : Int) := by
  constructor
  · rintro rfl j _; rfl
  · intro hh; refine List.ext_getElem h (fun j h1 h2 => ?_)
    have := hh j h1
    rwa [rd_nat a j h1, rd_nat b j h2] at this
/-- What marks hold: s, s + 1, .. -/
def iota (s : Int) (n : Nat) : List Int := (List.range n).map fun (i : Nat) => s + (i : Int)
theorem iota_length (s : Int) (n : Nat) : (iota s n).length = n := by simp [iota]
theorem iota_get (s : Int) (n i : Nat) (h : i < n) : (iota s n)[i]'(by rw [iota_length]; exact h) = s + i := by simp [iota]
/-- The same as bytes. -/
def iota8 (s : Int) (n : Nat) : List Int := (List.range n).map fun (i : Nat) => (s + (i : Int)) % 256
theorem iota8_length (s : Int) (n : Nat) : (iota8 s n).length = n := by simp [iota8]
theorem iota8_get (s : Int) (n i : Nat) (h : i < n) : (iota8 s n)[i]'(by rw [iota8_length]; exact h) = (s + i) % 256 := by simp [iota8]
theorem toIntS_eq (l : List Int) (hl : l.length ≤ 1048576) (k : Nat) (hk : l.length < k) : laws_toIntS.f k l = some l := by
  unfold laws_toIntS.f
  rw [if_pos (by omega), if_pos (by simp; omega)]
  have h := for_st l.length (fun k i s => laws_toIntS.l0 k l s (i : Int)) (fun i => l.take i ++ (List.replicate l.length 0).drop i) l ?_ ?_ k 0 (Nat.zero_le _) (by omega)
  · simpa using h
  · intro k i hi
    simp only [laws_toIntS.l0]
    rw [if_pos (by omega), if_pos (by omega), if_pos (by simp; omega), wrap_succ (by omega), rd_nat l i hi]
    simp only [Int.toNat_natCast]
    rw [set_step _ _ _ hi (by simp)]
  · intro k
    simp only [laws_toIntS.l0]
    rw [if_neg (by omega)]; simp
theorem eqIntS_eq (a b : List Int) (hl : a.length ≤ 1048576) (k : Nat) (hk : a.length < k) : laws_eqIntS.f k a b = some (decide (a = b)) := by
  unfold laws_eqIntS.f
  by_cases h : a.length = b.length
  · rw [if_pos (by omega)]
    refine for_all (L := fun k i => laws_eqIntS.l0 k a b (i : Int)) (n := a.length) (fun j => rd a (j : Int) = rd b (j : Int)) ?_ ?_ true ?_ ?_ k hk
    · intro k i hi hp
      simp only [laws_eqIntS.l0]
      rw [if_pos (by omega), if_pos (by omega), if_pos (by omega), if_pos hp, wrap_succ (by omega)]
    · intro k i hi hp
      simp only [laws_eqIntS.l0]
      rw [if_pos (by omega), if_pos (by omega), if_pos (by omega), if_neg hp]
    · intro k
      simp only [laws_eqIntS.l0]
      rw [if_neg (by omega)]
    · rw [decide_eq_true_iff, eq_iff_all a b h]; simp
  · rw [if_neg (by omega)]
    have : a ≠ b := fun hh => h (by rw [hh])
    simp [this]
theorem eqHart_same (r : List Int) (p s : Int) (hl : r.length ≤ 1048576) (k : Nat) (hk : r.length < k) : laws_eqHart.f k r p s r p s = some true := by
  unfold laws_eqHart.f
  rw [eqIntS_eq r r hl k hk, decide_eq_true rfl, Option.bind_some, if_pos rfl, if_pos rfl, if_pos rfl]
theorem szIntS_eq (l : List Int) (a : Int) (h0 : 0 ≤ a) (h1 : a ≤ 1048576) (hl : l.length ≤ maxLen) : laws_szIntS.f l a = some (if a - (l.length : Int) < 0 then -1 else a - (l.length : Int)) := by
  unfold maxLen at hl
  unfold laws_szIntS.f
  rw [wrap_small (by omega) (by omega)]
  by_cases h : a - (l.length : Int) < 0
  · rw [if_pos h, if_pos h]
  · rw [if_neg h, if_neg h]
theorem szIntS_ex (l : List Int) (a : Int) (h0 : 0 ≤ a) (h1 : a ≤ 1048576) (hl : l.length ≤ maxLen) : ∃ r, laws_szIntS.f l a = some r ∧ -1 ≤ r ∧ (0 ≤ r → r ≤ a ∧ l.length ≤ 1048576) := by
  refine ⟨_, szIntS_eq l a h0 h1 hl, ?_, ?_⟩
  · by_cases h : a - (l.length : Int) < 0
    · rw [if_pos h]; omega
    · rw [if_neg h]; omega
  · by_cases h : a - (l.length : Int) < 0
    · rw [if_pos h]; omega
    · rw [if_neg h]; omega
theorem szHart_ex (regs : List Int) (p s : Int) (a : Int) (h0 : 0 ≤ a) (h1 : a ≤ 1048576) (hl : regs.length ≤ maxLen) : ∃ r, laws_szHart.f regs p s a = some r ∧ -1 ≤ r ∧ (0 ≤ r → r ≤ a ∧ regs.length ≤ 1048576) := by
  unfold laws_szHart.f
  obtain ⟨r, h, h2, h3⟩ := szIntS_ex regs a h0 h1 hl
  rw [h, Option.bind_some]
  by_cases hr : r < 0
  · exact ⟨-1, by rw [if_pos hr], by omega, by omega⟩
  · exact ⟨r, by rw [if_neg hr], h2, h3⟩
theorem rdLHart (l : List S84) (i : Nat) (h : i < l.length) : rd_T84 l (i : Int) = l[i] := by
  unfold rd_T84; simp [List.getD, h]
theorem szHartS_l (l : List S84) (hl : l.length ≤ 1048576) (hx : ∀ x ∈ l, x.f0.length ≤ maxLen) : ∀ (k i : Nat) (a : Int), 0 ≤ a → a ≤ 1048576 → i ≤ l.length → l.length < i + k →
    ∃ r, laws_szHartS.l0 k l a (i : Int) = some r ∧ (0 ≤ r → ∀ j (hj : j < l.length), i ≤ j → (l[j]).f0.length ≤ 1048576)
  | 0, i, _, _, _, _, _ => by omega
  | k + 1, i, a, h0, h1, hi, hk => by
    rw [laws_szHartS.l0]
    by_cases h : i < l.length
    · rw [if_pos (by omega), if_pos (by omega), rdLHart l i h]
      obtain ⟨r, e, h2, h3⟩ := szHart_ex (l[i]).f0 (l[i]).f1 (l[i]).f2 a h0 h1 (hx _ (List.getElem_mem h))
      rw [e, Option.bind_some]
      by_cases hr : r < 0
      · exact ⟨-1, by rw [if_pos hr], by omega⟩
      · have h3' := h3 (by omega)
        rw [if_neg hr, wrap_succ (by omega)]
        obtain ⟨r', e', h4⟩ := szHartS_l l hl hx k (i + 1) r (by omega) (by omega) (by omega) (by omega)
        refine ⟨r', e', fun h5 j hj hij => ?_⟩
        by_cases c : j = i
        · subst c; exact h3'.2
        · exact h4 h5 j hj (by omega)
    · rw [if_neg (by omega)]
      exact ⟨a, rfl, fun _ j hj hij => by omega⟩
theorem szHartS_ex (l : List S84) (a : Int) (h0 : 0 ≤ a) (h1 : a ≤ 1048576) (hm : l.length ≤ maxLen) (hx : ∀ x ∈ l, x.f0.length ≤ maxLen) (k : Nat) (hk : 1048577 < k) :
    ∃ r, laws_szHartS.f k l a = some r ∧ (0 ≤ r → l.length ≤ 1048576 ∧ ∀ x ∈ l, x.f0.length ≤ 1048576) := by
  unfold maxLen at hm
  unfold laws_szHartS.f
  rw [wrap_small (by omega) (by omega)]
  by_cases h : a - (l.length : Int) < 0
  · exact ⟨-1, by rw [if_pos h], by omega⟩
  · rw [if_neg h]
    obtain ⟨r, e, h2⟩ := szHartS_l l (by omega) hx k 0 (a - (l.length : Int)) (by omega) (by omega) (by omega) (by omega)
    refine ⟨r, e, fun h3 => ⟨by omega, fun x hxm => ?_⟩⟩
    obtain ⟨j, hj, rfl⟩ := List.getElem_of_mem hxm
    exact h2 h3 j hj (by omega)
theorem toHart_eq (r : List Int) (p s : Int) (hl : r.length ≤ 1048576) (k : Nat) (hk : r.length < k) : laws_toHart.f k r p s = some (r, p, s) := by
  unfold laws_toHart.f
  rw [toIntS_eq r hl k hk]; rfl
def toHartV (x : S84) : S85 := ⟨x.f0, x.f1, x.f2⟩
theorem toHartS_eq (l : List S84) (hl : l.length ≤ 1048576) (hx : ∀ x ∈ l, x.f0.length ≤ 1048576) (k : Nat) (hk : 2200000 < k) : laws_toHartS.f k l = some (l.map toHartV) := by
  unfold laws_toHartS.f
  rw [if_pos (by omega), if_pos (by simp; omega)]
  have h := for_st l.length (fun k' i (s : List S85) => laws_toHartS.l0 (k' + 1048580) l s (i : Int)) (fun i => (l.map toHartV).take i ++ (List.replicate l.length z85).drop i) (l.map toHartV) ?_ ?_ (k - 1048580) 0 (Nat.zero_le _) (by omega)
  · rw [show k - 1048580 + 1048580 = k by omega] at h
    simpa using h
  · intro k' i hi
    rw [show k' + 1 + 1048580 = (k' + 1048580) + 1 by omega, laws_toHartS.l0]
    have hx' := hx _ (List.getElem_mem hi)
    rw [if_pos (by omega), if_pos (by omega), rdLHart l i hi, toHart_eq _ _ _ hx' _ (by omega), Option.bind_some, if_pos (by simp; omega), wrap_succ (by omega)]
    simp only [Int.toNat_natCast]
    have e : (⟨(l[i]).f0, (l[i]).f1, (l[i]).f2⟩ : S85) = (l.map toHartV)[i]'(by simpa using hi) := by simp [toHartV]
    rw [e, set_step _ _ _ (by simpa using hi) (by simp)]
  · intro k'
    rw [show k' + 1 + 1048580 = (k' + 1048580) + 1 by omega, laws_toHartS.l0]
    rw [if_neg (by omega)]; simp [List.take_of_length_le]
theorem rdHart (l : List S85) (i : Nat) (h : i < l.length) : rd_T85 l (i : Int) = l[i] := by
  unfold rd_T85; simp [List.getD, h]
theorem eqHartS_same (l : List S85) (hl : l.length ≤ 1048576) (hx : ∀ x ∈ l, x.f0.length ≤ 1048576) (k : Nat) (hk : 2200000 < k) : laws_eqHartS.f k l l = some true := by
  unfold laws_eqHartS.f
  rw [if_pos rfl]
  have h := for_st l.length (fun k' i (_ : Unit) => laws_eqHartS.l0 (k' + 1048580) l l (i : Int)) (fun _ => ()) true ?_ ?_ (k - 1048580) 0 (Nat.zero_le _) (by omega)
  · rw [show k - 1048580 + 1048580 = k by omega] at h; exact h
  · intro k' i hi
    have hx' := hx _ (List.getElem_mem hi)
    rw [show k' + 1 + 1048580 = (k' + 1048580) + 1 by omega, laws_eqHartS.l0]
    rw [if_pos (by omega), if_pos (by omega), if_pos (by omega), rdHart l i hi, eqHart_same _ _ _ hx' _ (by omega), Option.bind_some, if_pos rfl, wrap_succ (by omega)]
  · intro k'
    rw [show k' + 1 + 1048580 = (k' + 1048580) + 1 by omega, laws_eqHartS.l0]
    rw [if_neg (by omega)]
theorem specAllHalt_eq (l : List S85) (hl : l.length ≤ 1048576) (k : Nat) (hk : l.length < k) {q : Bool} (hq : q = true ↔ (∀ j, j < l.length → (rd_T85 l (j : Int)).f2 = 1) ∧ decide ((l.length : Int) > 0) = true) : spec_AllHalt.f k l = some q := by
  unfold spec_AllHalt.f
  refine for_all (L := fun k i => spec_AllHalt.l0 k l (i : Int)) (n := l.length) (fun j => (rd_T85 l (j : Int)).f2 = 1) ?_ ?_ (decide ((l.length : Int) > 0)) ?_ hq k hk
  · intro k i hi hp
    rw [spec_AllHalt.l0, if_pos (by omega), if_pos (by omega), if_pos hp, wrap_succ (by omega)]
  · intro k i hi hp
    rw [spec_AllHalt.l0, if_pos (by omega), if_pos (by omega), if_neg hp]
  · intro k
    rw [spec_AllHalt.l0, if_neg (by omega)]
theorem implAllHalt_eq (l : List S85) (hl : l.length ≤ 1048576) (k : Nat) (hk : l.length < k) {q : Bool} (hq : q = true ↔ (∀ j, j < l.length → (rd_T85 l (j : Int)).f2 = 1) ∧ decide ((l.length : Int) > 0) = true) : impl_AllHalt.f k l = some q := by
  unfold impl_AllHalt.f
  by_cases h : (l.length : Int) > 0
  · rw [if_pos h]
    unfold slices_ContainsFunc_at_impl_AllHalt_1.f slices_IndexFunc_at_impl_AllHalt_1.f
    have hs : ∀ k i, i < l.length → ¬ ¬ (rd_T85 l (i : Int)).f2 = 1 → slices_IndexFunc_at_impl_AllHalt_1.l0 (k + 1) l (l.length : Int) (i : Int) = slices_IndexFunc_at_impl_AllHalt_1.l0 k l (l.length : Int) ((i + 1 : Nat) : Int) := by
      intro k i hi hp
      rw [slices_IndexFunc_at_impl_AllHalt_1.l0, if_pos (by omega), if_pos (by omega), if_pos (by omega), impl_AllHalt_1.f, Classical.not_not.1 hp, Option.bind_some, if_neg (by decide), wrap_succ (by omega)]
    have hb : ∀ k i, i < l.length → ¬ (rd_T85 l (i : Int)).f2 = 1 → slices_IndexFunc_at_impl_AllHalt_1.l0 (k + 1) l (l.length : Int) (i : Int) = some (i : Int) := by
      intro k i hi hp
      rw [slices_IndexFunc_at_impl_AllHalt_1.l0, if_pos (by omega), if_pos (by omega), if_pos (by omega), impl_AllHalt_1.f, Option.bind_some, if_pos (by simpa using hp)]
    have he : ∀ k, slices_IndexFunc_at_impl_AllHalt_1.l0 (k + 1) l (l.length : Int) (l.length : Int) = some (-1) := by
      intro k
      rw [slices_IndexFunc_at_impl_AllHalt_1.l0, if_neg (by omega)]
    rcases for_find l.length (fun k i => slices_IndexFunc_at_impl_AllHalt_1.l0 k l (l.length : Int) (i : Int)) (fun j => ¬ (rd_T85 l (j : Int)).f2 = 1) (fun j => (j : Int)) (-1) hs hb he k 0 (Nat.zero_le _) (by omega) with ⟨j, _, h2, h3, _, h5⟩ | ⟨h1, h2⟩
    · have h5' : slices_IndexFunc_at_impl_AllHalt_1.l0 k l (l.length : Int) 0 = some (j : Int) := h5
      rw [h5']
      simp only [Option.bind_some]; congr 1; symm
      rw [decide_eq_true (by omega : (j : Int) ≥ 0), Bool.not_true, Bool.eq_false_iff]; intro hh
      exact h3 ((hq.1 hh).1 j h2)
    · have h2' : slices_IndexFunc_at_impl_AllHalt_1.l0 k l (l.length : Int) 0 = some (-1) := h2
      rw [h2']
      simp only [Option.bind_some]; congr 1; symm
      rw [decide_eq_false (by omega : ¬ (-1 : Int) ≥ 0), Bool.not_false, hq]
      exact ⟨fun j hj => Classical.not_not.1 (h1 j (Nat.zero_le _) hj), decide_eq_true h⟩
  · rw [if_neg h]; congr 1; symm
    rw [Bool.eq_false_iff]; intro hh; exact h (of_decide_eq_true (hq.1 hh).2)
theorem FnExactAllHalt : laws_FnExactAllHalt.Pure := by
  rintro l ⟨hm, hx⟩
  obtain ⟨k, hk⟩ : ∃ k : Nat, 4000000 < k := ⟨4000001, by omega⟩
  refine ⟨k, ?_⟩
  unfold laws_FnExactAllHalt.f
  obtain ⟨r, e, hr⟩ := szHartS_ex l 1048576 (by omega) (by omega) hm (fun x h => (hx x h).1.1) k (by omega)
  rw [e, Option.bind_some]
  by_cases h : r < 0
  · rw [if_pos h]
  obtain ⟨hl, hy⟩ := hr (by omega)
  have hl' : (l.map toHartV).length ≤ 1048576 := by simpa using hl
  have hy' : ∀ x ∈ l.map toHartV, x.f0.length ≤ 1048576 := by
    intro x hx'
    obtain ⟨y, hy1, rfl⟩ := List.mem_map.1 hx'
    exact hy y hy1
  have e1 := toHartS_eq l hl hy k (by omega)
  generalize l.map toHartV = m at *
  obtain ⟨q, hq⟩ : ∃ q : Bool, q = true ↔ (∀ j, j < m.length → (rd_T85 m (j : Int)).f2 = 1) ∧ decide ((m.length : Int) > 0) = true := by
    by_cases c : (∀ j, j < m.length → (rd_T85 m (j : Int)).f2 = 1) ∧ decide ((m.length : Int) > 0) = true
    · exact ⟨true, ⟨fun _ => c, fun _ => rfl⟩⟩
    · exact ⟨false, ⟨fun h => (by cases h), fun h => absurd h c⟩⟩
  rw [if_neg h, e1, Option.bind_some, specAllHalt_eq m hl' k (by omega) hq, Option.bind_some, Option.bind_some, implAllHalt_eq m hl' k (by omega) hq, Option.bind_some, bne_self_eq_false, if_neg (by simp), Option.bind_some, eqHartS_same m hl' hy' k (by omega), Option.bind_some, if_pos rfl]
end Go.Proofs.Ytljhpfbpcdkdjaa.Pure
