/- For all parts and names, the program's PartAt returns what the reference's PartAt returns, and keeps its argument: no conditions. -/
import Derived.Test.YtfkfdhnhakkihaaPFnExactPartAtx4
namespace Go.Proofs.Ytfkfdhnhakkihaa.Pure
open Go.RowKit Go.Proofs.Ytfkfdhnhakkihaa.PFnExactPartAt Go.Proofs.YtfkfdhnhakkihaaW.PrintWords Go.Proofs.YtfkfdhnhakkihaaW.PrintLast
set_option linter.unusedVariables false
set_option linter.unusedSimpArgs false

theorem wrap_small {x : Int} (h0 : -9223372036854775808 ≤ x) (h : x ≤ 9223372036854775807) : wrap64 x = x := by
  unfold wrap64; omega
theorem wrap_succ {i : Nat} (h : i < 4611686018427387904) : wrap64 ((i : Int) + 1) = ((i + 1 : Nat) : Int) := by
  unfold wrap64; omega
theorem rd_nat (l : List Int) (i : Nat) (h : i < l.length) : rd l (i : Int) = l[i] := by
  unfold rd; simp [List.getD, h]
theorem rd_mem (l : List Int) (i : Nat) (h : i < l.length) : rd l (i : Int) ∈ l := by
  rw [rd_nat l i h]; exact List.getElem_mem h
/-- A loop whose state is known ahead of each round. -/
theorem for_st {σ ρ : Type} (n : Nat) (L : Nat → Nat → σ → Option ρ) (st : Nat → σ) (r : ρ) (hs : ∀ k i, i < n → L (k + 1) i (st i) = L k (i + 1) (st (i + 1))) (he : ∀ k, L (k + 1) n (st n) = some r) :
    ∀ (k i : Nat), i ≤ n → n < i + k → L k i (st i) = some r
  | 0, i, hi, hk => by omega
  | k + 1, i, hi, hk => by
    by_cases h : i < n
    · rw [hs k i h]; exact for_st n L st r hs he k (i + 1) (by omega) (by omega)
    · have : i = n := by omega
      subst this; exact he k
/-- A loop that ends at the first place where p holds. -/
theorem for_find {ρ : Type} (n : Nat) (L : Nat → Nat → Option ρ) (p : Nat → Prop) (b : Nat → ρ) (r : ρ) (hs : ∀ k i, i < n → ¬ p i → L (k + 1) i = L k (i + 1)) (hb : ∀ k i, i < n → p i → L (k + 1) i = some (b i)) (he : ∀ k, L (k + 1) n = some r) :
    ∀ (k i : Nat), i ≤ n → n < i + k → (∃ j, i ≤ j ∧ j < n ∧ p j ∧ (∀ m, i ≤ m → m < j → ¬ p m) ∧ L k i = some (b j)) ∨ (∀ j, i ≤ j → j < n → ¬ p j) ∧ L k i = some r
  | 0, i, hi, hk => by omega
  | k + 1, i, hi, hk => by
    by_cases h : i < n
    · by_cases hp : p i
      · exact .inl ⟨i, Nat.le_refl _, h, hp, fun m h1 h2 => by omega, hb k i h hp⟩
      · rw [hs k i h hp]
        rcases for_find n L p b r hs hb he k (i + 1) (by omega) (by omega) with ⟨j, h1, h2, h3, h4, h5⟩ | ⟨h1, h2⟩
        · refine .inl ⟨j, by omega, h2, h3, fun m hm1 hm2 => ?_, h5⟩
          by_cases e : m = i
          · subst e; exact hp
          · exact h4 m (by omega) hm2
        · refine .inr ⟨fun j hj1 hj2 => ?_, h2⟩
          by_cases e : j = i
          · subst e; exact hp
          · exact h1 j (by omega) hj2
    · have : i = n := by omega
      subst this; exact .inr ⟨fun j h1 h2 => by omega, he k⟩
/-- The same for a Bool: do all places pass? -/
theorem for_all {n : Nat} {L : Nat → Nat → Option Bool} (p : Nat → Prop) (hs : ∀ k i, i < n → p i → L (k + 1) i = L k (i + 1)) (hb : ∀ k i, i < n → ¬ p i → L (k + 1) i = some false) (c : Bool) (he : ∀ k, L (k + 1) n = some c) {q : Bool}
    (hq : q = true ↔ (∀ j, j < n → p j) ∧ c = true) (k : Nat) (hk : n < k) : L k 0 = some q := by
  rcases for_find n L (fun i => ¬ p i) (fun _ => false) c (fun k i h hp => hs k i h (Classical.not_not.1 hp)) (fun k i h hp => hb k i h hp) he k 0 (Nat.zero_le _) (by omega) with ⟨j, _, h2, h3, _, h5⟩ | ⟨h1, h2⟩
  · rw [h5]; congr 1; symm
    rw [Bool.eq_false_iff]; intro hh; exact h3 ((hq.1 hh).1 j h2)
  · rw [h2]; congr 1
    have : ∀ j, j < n → p j := fun j hj => Classical.not_not.1 (h1 j (Nat.zero_le _) hj)
    rw [Bool.eq_iff_iff, hq]; exact ⟨fun h => ⟨this, h⟩, fun h => h.2⟩
/-- What is written, place by place. -/
theorem set_step {α : Type} (a b : List α) (i : Nat) (hi : i < a.length) (hb : b.length = a.length) : (a.take i ++ b.drop i).set i (a[i]'hi) = a.take (i + 1) ++ b.drop (i + 1) := by
  rw [List.set_append_right _ _ (by simp; omega), List.length_take, Nat.min_eq_left (by omega), Nat.sub_self, List.take_succ_eq_append_getElem hi, List.append_assoc]
  congr 1
  rw [List.drop_eq_getElem_cons (by omega)]
  rfl
theorem snoc_step {α : Type} (a : List α) (i : Nat) (hi : i < a.length) : a.take i ++ [a[i]'hi] = a.take (i + 1) := by
  rw [List.take_succ_eq_append_getElem hi]
theorem eq_iff_all (a b : List Int) (h : a.length = b.length) : a = b ↔ ∀ j, j < a.length → rd a (j : Int) = rd b (j : Int) := by
  constructor
  · rintro rfl j _; rfl
  · intro hh; refine List.ext_getElem h (fun j h1 h2 => ?_)
    have := hh j h1
    rwa [rd_nat a j h1, rd_nat b j h2] at this
/-- What marks hold: s, s + 1, .. -/
def iota (s : Int) (n : Nat) : List Int := (List.range n).map fun (i : Nat) => s + (i : Int)
theorem iota_length (s : Int) (n : Nat) : (iota s n).length = n := by simp [iota]
theorem iota_get (s : Int) (n i : Nat) (h : i < n) : (iota s n)[i]'(by rw [iota_length]; exact h) = s + i := by simp [iota]
/-- The same as bytes. -/
def iota8 (s : Int) (n : Nat) : List Int := (List.range n).map fun (i : Nat) => (s + (i : Int)) % 256
theorem iota8_length (s : Int) (n : Nat) : (iota8 s n).length = n := by simp [iota8]
theorem iota8_get (s : Int) (n i : Nat) (h : i < n) : (iota8 s n)[i]'(by rw [iota8_length]; exact h) = (s + i) % 256 := by simp [iota8]
theorem wraps_i64 (n : Int) (h0 : 0 ≤ n) (h1 : n < 2 ^ 62) : IntKind.i64.wrap n = n := by rw [IntKind.wrap_i64]; omega
theorem and255 (x : Int) (h0 : 0 ≤ x) (h : x ≤ 65535) : Go.bits .and .i64 x 255 = x % 256 := bits_mask .i64 62 (by decide) wraps_i64 8 (by decide) x h0 (by omega)
/-- Does a search find something. -/
theorem idx_any {n : Nat} (L : Nat → Nat → Option Int) (q : Nat → Bool) (hs : ∀ k i, i < n → q i = false → L (k + 1) i = L k (i + 1)) (hb : ∀ k i, i < n → q i = true → L (k + 1) i = some (i : Int)) (he : ∀ k, L (k + 1) n = some (-1)) (r : Bool)
    (hr : r = true ↔ ∃ j, j < n ∧ q j = true) (k : Nat) (hk : n < k) : ∃ v, L k 0 = some v ∧ decide (v ≥ 0) = r := by
  rcases for_find n L (fun i => q i = true) (fun i => (i : Int)) (-1) (fun k i h hp => hs k i h (by simpa using hp)) hb he k 0 (Nat.zero_le _) (by omega) with ⟨j, _, h2, h3, _, h5⟩ | ⟨h1, h2⟩
  · refine ⟨_, h5, ?_⟩
    rw [decide_eq_true (by omega : (j : Int) ≥ 0)]; exact (hr.2 ⟨j, h2, h3⟩).symm
  · refine ⟨_, h2, ?_⟩
    rw [decide_eq_false (by omega : ¬ (-1 : Int) ≥ 0)]; symm; rw [Bool.eq_false_iff]; intro hh
    obtain ⟨j, hj, hq⟩ := hr.1 hh
    exact h1 j (Nat.zero_le _) hj hq
/-- A count that goes down, item by item, and stops below nothing. -/
theorem sz_loop {n C : Nat} {M : Int} (L : Nat → Nat → Int → Option Int) (P : Nat → Prop) (hs : ∀ k i a, i < n → C ≤ k → 0 ≤ a → a ≤ M → (∃ r, r < 0 ∧ L (k + 1) i a = some r) ∨ ∃ t, 0 ≤ t ∧ t ≤ a ∧ P i ∧ L (k + 1) i a = L k (i + 1) t)
    (he : ∀ k a, L (k + 1) n a = some a) : ∀ (m i : Nat) (a : Int), i ≤ n → n < i + m → 0 ≤ a → a ≤ M → ∃ r, L (m + C) i a = some r ∧ r ≤ a ∧ (0 ≤ r → ∀ j, i ≤ j → j < n → P j)
  | 0, i, a, hi, hm, _, _ => by omega
  | m + 1, i, a, hi, hm, h0, h1 => by
    rw [show m + 1 + C = (m + C) + 1 by omega]
    by_cases h : i < n
    · rcases hs (m + C) i a h (by omega) h0 h1 with ⟨r, hr, e⟩ | ⟨t, ht0, ht, hp, e⟩
      · exact ⟨r, e, by omega, fun h => by omega⟩
      · obtain ⟨r, e2, hr, hq⟩ := sz_loop L P hs he m (i + 1) t (by omega) (by omega) ht0 (by omega)
        refine ⟨r, by rw [e, e2], by omega, fun h0 j hj1 hj2 => ?_⟩
        by_cases c : j = i
        · subst c; exact hp
        · exact hq h0 j (by omega) hj2
    · have : i = n := by omega
      subst this
      exact ⟨a, he _ _, Int.le_refl _, fun _ j h1 h2 => by omega⟩
/-- A list made place by place. -/
theorem to_loop {α : Type} {C : Nat} (v z : List α) (hz : z.length = v.length) (L : Nat → Nat → List α → Option (List α)) (hs : ∀ k i s (hi : i < v.length), C ≤ k → s.length = v.length → L (k + 1) i s = L k (i + 1) (s.set i (v[i]'hi)))
    (he : ∀ k s, L (k + 1) v.length s = some s) (k : Nat) (hk : v.length + C < k) : L k 0 z = some v := by
  have h := for_st v.length (fun k' i (s : List α) => L (k' + C) i s) (fun i => v.take i ++ z.drop i) v ?_ ?_ (k - C) 0 (Nat.zero_le _) (by omega)
  · rw [show k - C + C = k by omega] at h; simpa using h
  · intro k' i hi
    rw [show k' + 1 + C = (k' + C) + 1 by omega, hs _ _ _ hi (by omega) (by simp; omega), set_step _ _ _ hi hz]
  · intro k'
    rw [show k' + 1 + C = (k' + C) + 1 by omega, he, List.take_of_length_le (Nat.le_refl _), List.drop_of_length_le (by omega), List.append_nil]
/-- Equal, place by place. -/
theorem same_loop {n C : Nat} (L : Nat → Nat → Option Bool) (hs : ∀ k i, i < n → C ≤ k → L (k + 1) i = L k (i + 1)) (he : ∀ k, L (k + 1) n = some true) (k : Nat) (hk : n + C < k) : L k 0 = some true := by
  have h := for_st n (fun k' i (_ : Unit) => L (k' + C) i) (fun _ => ()) true ?_ ?_ (k - C) 0 (Nat.zero_le _) (by omega)
  · rw [show k - C + C = k by omega] at h; exact h
  · intro k' i hi; rw [show k' + 1 + C = (k' + C) + 1 by omega, hs _ _ hi (by omega)]
  · intro k'; rw [show k' + 1 + C = (k' + C) + 1 by omega, he]
theorem szInsS_ex (l : List S211) (hm : l.length ≤ maxLen) (a : Int) (h0 : 0 ≤ a) (h1 : a ≤ 1048576) : ∃ r, laws_szInsS.f l a = some r ∧ r ≤ a ∧ (0 ≤ r → l.length ≤ 1048576) := by
  unfold laws_szInsS.f
  have e : wrap64 (a - (l.length : Int)) = a - (l.length : Int) := by unfold maxLen at hm; unfold wrap64; omega
  rw [e]
  by_cases h : a - (l.length : Int) < 0
  · rw [if_pos h]; exact ⟨_, rfl, by omega, fun h => by omega⟩
  · rw [if_neg h]; exact ⟨_, rfl, by omega, fun _ => by omega⟩
theorem rdLRef (l : List S209) (i : Nat) (h : i < l.length) : rd_T209 l (i : Int) = l[i] := by
  unfold rd_T209; simp [List.getD, h]
theorem szRefS_ex (l : List S209) (hm : l.length ≤ maxLen) (hx : ∀ x ∈ l, x.f1.size ≤ maxLen) (a : Int) (h0 : 0 ≤ a) (h1 : a ≤ 1048576) (k : Nat) (hk : 1048580 < k) : ∃ r, laws_szRefS.f k l a = some r ∧ r ≤ a ∧ (0 ≤ r → l.length ≤ 1048576) := by
  unfold laws_szRefS.f
  have e : wrap64 (a - (l.length : Int)) = a - (l.length : Int) := by unfold maxLen at hm; unfold wrap64; omega
  rw [e]
  by_cases h : a - (l.length : Int) < 0
  · rw [if_pos h]; exact ⟨_, rfl, by omega, fun h => by omega⟩
  · rw [if_neg h]
    have H := sz_loop (n := l.length) (C := 0) (M := 1048576) (fun k i a => laws_szRefS.l0 k l a (i : Int)) (fun _ => True) ?_ ?_ k 0 (a - (l.length : Int)) (Nat.zero_le _) (by omega) (by omega) (by omega)
    · obtain ⟨r, e, hr, _⟩ := H
      exact ⟨r, e, by omega, fun _ => by omega⟩
    · intro k i a hi _ h0 h1
      have hs := hx _ (List.getElem_mem hi)
      have ew : wrap64 (a - ((l[i]).f1.size : Int)) = a - ((l[i]).f1.size : Int) := by unfold maxLen at hs; unfold wrap64; omega
      simp only [laws_szRefS.l0, laws_szRef.f]
      rw [if_pos (by omega), if_pos (by omega), rdLRef l i hi, ew]
      by_cases hh : a - ((l[i]).f1.size : Int) < 0
      · rw [if_pos hh, Option.bind_some, if_pos (by omega)]; exact .inl ⟨_, by omega, rfl⟩
      · rw [if_neg hh, Option.bind_some, if_neg hh, wrap_succ (by omega)]; exact .inr ⟨_, by omega, by omega, trivial, rfl⟩
    · intro k a
      simp only [laws_szRefS.l0]
      rw [if_neg (by omega)]
/-- A part as it may come in. -/
def partIn (x : S137) : Prop := x.f0.size ≤ maxLen ∧ x.f1.length ≤ maxLen ∧ x.f2.length ≤ maxLen ∧ ∀ y ∈ x.f2, y.f1.size ≤ maxLen
def partLens (x : S137) : Prop := x.f0.size ≤ 1048576 ∧ x.f1.length ≤ 1048576 ∧ x.f2.length ≤ 1048576
theorem szPart_ex (x : S137) (hx : partIn x) (a : Int) (h0 : 0 ≤ a) (h1 : a ≤ 1048576) (k : Nat) (hk : 1048580 < k) : ∃ r, laws_szPart.f k x.f0 x.f1 x.f2 a = some r ∧ r ≤ a ∧ (0 ≤ r → partLens x) := by
  obtain ⟨hs, hl, hr, hy⟩ := hx
  unfold laws_szPart.f
  have e : wrap64 (a - (x.f0.size : Int)) = a - (x.f0.size : Int) := by unfold maxLen at hs; unfold wrap64; omega
  rw [e]
  by_cases h : a - (x.f0.size : Int) < 0
  · rw [if_pos h]; exact ⟨_, rfl, by omega, fun h => by omega⟩
  · rw [if_neg h]
    obtain ⟨r1, e1, q1, p1⟩ := szInsS_ex x.f1 hl (a - (x.f0.size : Int)) (by omega) (by omega)
    rw [e1, Option.bind_some]
    by_cases h2 : r1 < 0
    · rw [if_pos h2]; exact ⟨_, rfl, by omega, fun h => by omega⟩
    · rw [if_neg h2]
      obtain ⟨r2, e2, q2, p2⟩ := szRefS_ex x.f2 hr hy r1 (by omega) (by omega) k hk
      rw [e2, Option.bind_some]
      by_cases h3 : r2 < 0
      · rw [if_pos h3]; exact ⟨_, rfl, by omega, fun h => by omega⟩
      · rw [if_neg h3]; exact ⟨_, rfl, by omega, fun h => ⟨by omega, p1 (by omega), p2 (by omega)⟩⟩
theorem rdLPart (l : List S137) (i : Nat) (h : i < l.length) : rd_T137 l (i : Int) = l[i] := by
  unfold rd_T137; simp [List.getD, h]
theorem szPartS_ex (l : List S137) (hm : l.length ≤ maxLen) (hx : ∀ x ∈ l, partIn x) (a : Int) (h0 : 0 ≤ a) (h1 : a ≤ 1048576) (k : Nat) (hk : 3000000 < k) : ∃ r, laws_szPartS.f k l a = some r ∧ r ≤ a ∧ (0 ≤ r → l.length ≤ 1048576 ∧ ∀ x ∈ l, partLens x) := by
  unfold laws_szPartS.f
  have e : wrap64 (a - (l.length : Int)) = a - (l.length : Int) := by unfold maxLen at hm; unfold wrap64; omega
  rw [e]
  by_cases h : a - (l.length : Int) < 0
  · rw [if_pos h]; exact ⟨_, rfl, by omega, fun h => by omega⟩
  · rw [if_neg h]
    have H := sz_loop (n := l.length) (C := 1048581) (M := 1048576) (fun k i a => laws_szPartS.l0 k l a (i : Int)) (fun i => ∀ x, l[i]? = some x → partLens x) ?_ ?_ (k - 1048581) 0 (a - (l.length : Int)) (Nat.zero_le _) (by omega) (by omega) (by omega)
    · obtain ⟨r, e, hr, hp⟩ := H
      rw [show k - 1048581 + 1048581 = k by omega] at e
      refine ⟨r, e, by omega, fun h => ⟨by omega, fun x hx => ?_⟩⟩
      obtain ⟨j, hj, rfl⟩ := List.getElem_of_mem hx
      exact hp h j (Nat.zero_le _) hj _ (List.getElem?_eq_getElem hj)
    · intro k i a hi hk h0 h1
      obtain ⟨r1, e1, q1, p1⟩ := szPart_ex (l[i]) (hx _ (List.getElem_mem hi)) a h0 h1 k (by omega)
      simp only [laws_szPartS.l0]
      rw [if_pos (by omega), if_pos (by omega), rdLPart l i hi, e1, Option.bind_some]
      by_cases hh : r1 < 0
      · rw [if_pos hh]; exact .inl ⟨_, by omega, rfl⟩
      · rw [if_neg hh, wrap_succ (by omega)]
        exact .inr ⟨r1, by omega, q1, fun x hx' => by rw [List.getElem?_eq_getElem hi] at hx'; rw [← Option.some.inj hx']; exact p1 (by omega), rfl⟩
    · intro k a
      simp only [laws_szPartS.l0]
      rw [if_neg (by omega)]
def toInsV (x : S211) : S100 := ⟨x.f0, x.f1, x.f2, x.f3, x.f4⟩
theorem rdLIns (l : List S211) (i : Nat) (h : i < l.length) : rd_T211 l (i : Int) = l[i] := by
  unfold rd_T211; simp [List.getD, h]
theorem toInsS_eq (l : List S211) (hl : l.length ≤ 1048576) (k : Nat) (hk : 1048580 < k) : laws_toInsS.f k l = some (l.map toInsV) := by
  unfold laws_toInsS.f
  rw [if_pos (by omega), if_pos (by simp; omega)]
  refine to_loop (C := 0) (l.map toInsV) _ (by simp) (fun k i s => laws_toInsS.l0 k l s (i : Int)) ?_ ?_ k (by simp; omega)
  · intro k i s hi _ hsl
    have hi' : i < l.length := by simpa using hi
    simp only [laws_toInsS.l0]
    rw [if_pos (by omega), if_pos (by omega), rdLIns l i hi', laws_toIns.f, Option.bind_some, if_pos (by simp at hsl; omega), wrap_succ (by omega), Int.toNat_natCast]
    simp [toInsV]
  · intro k s
    simp only [laws_toInsS.l0]
    rw [if_neg (by simp)]
def toRefV (x : S209) : S212 := ⟨x.f0, x.f1⟩
theorem rdLRef' (l : List S209) (i : Nat) (h : i < l.length) : rd_T209 l (i : Int) = l[i] := by
  unfold rd_T209; simp [List.getD, h]
theorem toRefS_eq (l : List S209) (hl : l.length ≤ 1048576) (k : Nat) (hk : 1048580 < k) : laws_toRefS.f k l = some (l.map toRefV) := by
  unfold laws_toRefS.f
  rw [if_pos (by omega), if_pos (by simp; omega)]
  refine to_loop (C := 0) (l.map toRefV) _ (by simp) (fun k i s => laws_toRefS.l0 k l s (i : Int)) ?_ ?_ k (by simp; omega)
  · intro k i s hi _ hsl
    have hi' : i < l.length := by simpa using hi
    simp only [laws_toRefS.l0]
    rw [if_pos (by omega), if_pos (by omega), rdLRef' l i hi', laws_toRef.f, Option.bind_some, if_pos (by simp at hsl; omega), wrap_succ (by omega), Int.toNat_natCast]
    simp [toRefV]
  · intro k s
    simp only [laws_toRefS.l0]
    rw [if_neg (by simp)]
def toPartV (x : S137) : S140 := ⟨x.f0, x.f1.map toInsV, x.f2.map toRefV⟩
theorem toPart_eq (x : S137) (hx : partLens x) (k : Nat) (hk : 1048580 < k) : laws_toPart.f k x.f0 x.f1 x.f2 = some (x.f0, x.f1.map toInsV, x.f2.map toRefV) := by
  unfold laws_toPart.f
  rw [toInsS_eq _ hx.2.1 k hk, Option.bind_some, toRefS_eq _ hx.2.2 k hk, Option.bind_some]
theorem toPartS_eq (l : List S137) (hl : l.length ≤ 1048576) (hx : ∀ x ∈ l, partLens x) (k : Nat) (hk : 3000000 < k) : laws_toPartS.f k l = some (l.map toPartV) := by
  unfold laws_toPartS.f
  rw [if_pos (by omega), if_pos (by simp; omega)]
  refine to_loop (C := 1048581) (l.map toPartV) _ (by simp) (fun k i s => laws_toPartS.l0 k l s (i : Int)) ?_ ?_ k (by simp; omega)
  · intro k i s hi hC hsl
    have hi' : i < l.length := by simpa using hi
    simp only [laws_toPartS.l0]
    rw [if_pos (by omega), if_pos (by omega), rdLPart l i hi', toPart_eq _ (hx _ (List.getElem_mem hi')) k (by omega), Option.bind_some, if_pos (by simp at hsl; omega), wrap_succ (by omega), Int.toNat_natCast]
    simp [toPartV]
  · intro k s
    simp only [laws_toPartS.l0]
    rw [if_neg (by simp)]
theorem rdIns (l : List S100) (i : Nat) (h : i < l.length) : rd_T100 l (i : Int) = l[i] := by
  unfold rd_T100; simp [List.getD, h]
theorem eqInsS_same (l : List S100) (hl : l.length ≤ 1048576) (k : Nat) (hk : 1048580 < k) : laws_eqInsS.f k l l = some true := by
  unfold laws_eqInsS.f
  rw [if_pos rfl]
  refine same_loop (C := 0) (n := l.length) (fun k i => laws_eqInsS.l0 k l l (i : Int)) ?_ ?_ k (by omega)
  · intro k i hi _
    simp only [laws_eqInsS.l0]
    rw [if_pos (by omega), if_pos (by omega), if_pos (by omega), laws_eqIns.f, if_pos rfl, if_pos rfl, if_pos rfl, if_pos rfl, if_pos rfl, Option.bind_some, if_pos rfl, wrap_succ (by omega)]
  · intro k
    simp only [laws_eqInsS.l0]
    rw [if_neg (by omega)]
theorem rdRef (l : List S212) (i : Nat) (h : i < l.length) : rd_T212 l (i : Int) = l[i] := by
  unfold rd_T212; simp [List.getD, h]
theorem eqRefS_same (l : List S212) (hl : l.length ≤ 1048576) (k : Nat) (hk : 1048580 < k) : laws_eqRefS.f k l l = some true := by
  unfold laws_eqRefS.f
  rw [if_pos rfl]
  refine same_loop (C := 0) (n := l.length) (fun k i => laws_eqRefS.l0 k l l (i : Int)) ?_ ?_ k (by omega)
  · intro k i hi _
    simp only [laws_eqRefS.l0]
    rw [if_pos (by omega), if_pos (by omega), if_pos (by omega), laws_eqRef.f, if_pos rfl, if_pos rfl, Option.bind_some, if_pos rfl, wrap_succ (by omega)]
  · intro k
    simp only [laws_eqRefS.l0]
    rw [if_neg (by omega)]
theorem eqPart_same (n : ByteArray) (l : List S100) (r : List S212) (hl : l.length ≤ 1048576) (hr : r.length ≤ 1048576) (k : Nat) (hk : 1048580 < k) : laws_eqPart.f k n l r n l r = some true := by
  unfold laws_eqPart.f
  rw [if_pos rfl, eqInsS_same l hl k hk, Option.bind_some, if_pos rfl, eqRefS_same r hr k hk, Option.bind_some, if_pos rfl]
theorem rdPart (l : List S140) (i : Nat) (h : i < l.length) : rd_T140 l (i : Int) = l[i] := by
  unfold rd_T140; simp [List.getD, h]
theorem eqPartS_same (l : List S140) (hl : l.length ≤ 1048576) (hx : ∀ x ∈ l, x.f1.length ≤ 1048576 ∧ x.f2.length ≤ 1048576) (k : Nat) (hk : 3000000 < k) : laws_eqPartS.f k l l = some true := by
  unfold laws_eqPartS.f
  rw [if_pos rfl]
  refine same_loop (C := 1048581) (n := l.length) (fun k i => laws_eqPartS.l0 k l l (i : Int)) ?_ ?_ k (by omega)
  · intro k i hi hC
    simp only [laws_eqPartS.l0]
    have h := hx _ (List.getElem_mem hi)
    rw [if_pos (by omega), if_pos (by omega), if_pos (by omega), rdPart l i hi, eqPart_same _ _ _ h.1 h.2 k (by omega), Option.bind_some, if_pos rfl, wrap_succ (by omega)]
  · intro k
    simp only [laws_eqPartS.l0]
    rw [if_neg (by omega)]
theorem specPartAt_eq (l : List S140) (a : ByteArray) (hl : l.length ≤ 1048576) (k : Nat) (hk : l.length < k) : spec_PartAt.f k l a = some (partIdx a l 0) := by
  unfold spec_PartAt.f
  have h : ∀ k i : Nat, i ≤ l.length → l.length < i + k → spec_PartAt.l0 k l a (i : Int) = some (partIdx a (l.drop i) i) := by
    intro k
    induction k with
    | zero => intro i h1 h2; omega
    | succ k ih =>
      intro i h1 h2
      rw [spec_PartAt.l0]
      by_cases hi : i < l.length
      · rw [if_pos (by omega), if_pos (by omega), partIdx_drop a l i hi]
        by_cases hn : (rd_T140 l (i : Int)).f0.toList = a.toList
        · rw [if_pos hn, if_pos hn]
        · rw [if_neg hn, if_neg hn, wrap_succ (by omega)]; exact ih (i + 1) (by omega) (by omega)
      · rw [if_neg (by omega), List.drop_of_length_le (by omega)]; rfl
  exact h k 0 (Nat.zero_le _) (by omega)
theorem FnExactPartAt : laws_FnExactPartAt.Pure := by
  rintro l a ⟨hm, hw⟩ _
  obtain ⟨k, hk⟩ : ∃ k : Nat, 4000000 < k := ⟨4000001, by omega⟩
  refine ⟨k, ?_⟩
  unfold laws_FnExactPartAt.f
  by_cases h0 : (a.size : Int) > 1048576
  · rw [if_pos h0]
  have hin : ∀ x ∈ l, partIn x := fun x hx => by
    obtain ⟨h1, ⟨h2, _⟩, h3, h4⟩ := hw x hx
    exact ⟨h1, h2, h3, fun y hy => (h4 y hy).2⟩
  obtain ⟨r, e, _, hr⟩ := szPartS_ex l hm hin 1048576 (by omega) (by omega) k (by omega)
  rw [if_neg h0, e, Option.bind_some]
  by_cases h : r < 0
  · rw [if_pos h]
  obtain ⟨hl, hx⟩ := hr (by omega)
  have e1 := toPartS_eq l hl hx k (by omega)
  have e2 := specPartAt_eq (l.map toPartV) a (by simpa using hl) k (by simp; omega)
  have e3 : impl_PartAt.f (l.map toPartV) a = some (partIdx a (l.map toPartV) 0) := rfl
  have e4 := eqPartS_same (l.map toPartV) (by simpa using hl) (fun x hx' => by
    obtain ⟨y, hy, rfl⟩ := List.mem_map.1 hx'
    have := hx y hy
    exact ⟨by simpa [toPartV] using this.2.1, by simpa [toPartV] using this.2.2⟩) k (by omega)
  simp only [e1, e2, e3, e4, Option.bind_some, if_neg h, if_true]
end Go.Proofs.Ytfkfdhnhakkihaa.Pure
