/- For all parts, the program's PartOk returns what the reference's PartOk returns, and keeps its argument: no conditions. -/
import Derived.Test.YtddncenhddiemaaPFnExactPartOkx9
namespace Go.Proofs.Ytddncenhddiemaa.Pure
open Go.RowKit Go.Proofs.Ytddncenhddiemaa.PFnExactPartOk Go.Proofs.YtddncenhddiemaaW.PrintWords Go.Proofs.YtddncenhddiemaaW.PrintLast
set_option linter.unusedVariables false
set_option linter.unusedSimpArgs false

theorem wrap_small {x : Int} (h0 : -9223372036854775808 ≤ x) (h : x ≤ 9223372036854775807) : wrap64 x = x := by
  unfold wrap64; omega
theorem wrap_succ {i : Nat} (h : i < 4611686018427387904) : wrap64 ((i : Int) + 1) = ((i + 1 : Nat) : Int) := by
  unfold wrap64; omega
theorem rd_nat (l : List Int) (i : Nat) (h : i < l.length) : rd l (i : Int) = l[i] := by
  unfold rd; simp [List.getD, h]
theorem rd_mem (l : List Int) (i : Nat) (h : i < l.length) : rd l (i : Int) ∈ l := by
  rw [rd_nat l i h]; exact List.getElem_mem h
/-- A loop whose state is known ahead of each round. -/
theorem for_st {σ ρ : Type} (n : Nat) (L : Nat → Nat → σ → Option ρ) (st : Nat → σ) (r : ρ) (hs : ∀ k i, i < n → L (k + 1) i (st i) = L k (i + 1) (st (i + 1))) (he : ∀ k, L (k + 1) n (st n) = some r) :
    ∀ (k i : Nat), i ≤ n → n < i + k → L k i (st i) = some r
  | 0, i, hi, hk => by omega
  | k + 1, i, hi, hk => by
    by_cases h : i < n
    · rw [hs k i h]; exact for_st n L st r hs he k (i + 1) (by omega) (by omega)
    · have : i = n := by omega
      subst this; exact he k
/-- A loop that ends at the first place where p holds. -/
theorem for_find {ρ : Type} (n : Nat) (L : Nat → Nat → Option ρ) (p : Nat → Prop) (b : Nat → ρ) (r : ρ) (hs : ∀ k i, i < n → ¬ p i → L (k + 1) i = L k (i + 1)) (hb : ∀ k i, i < n → p i → L (k + 1) i = some (b i)) (he : ∀ k, L (k + 1) n = some r) :
    ∀ (k i : Nat), i ≤ n → n < i + k → (∃ j, i ≤ j ∧ j < n ∧ p j ∧ (∀ m, i ≤ m → m < j → ¬ p m) ∧ L k i = some (b j)) ∨ (∀ j, i ≤ j → j < n → ¬ p j) ∧ L k i = some r
  | 0, i, hi, hk => by omega
  | k + 1, i, hi, hk => by
    by_cases h : i < n
    · by_cases hp : p i
      · exact .inl ⟨i, Nat.le_refl _, h, hp, fun m h1 h2 => by omega, hb k i h hp⟩
      · rw [hs k i h hp]
        rcases for_find n L p b r hs hb he k (i + 1) (by omega) (by omega) with ⟨j, h1, h2, h3, h4, h5⟩ | ⟨h1, h2⟩
        · refine .inl ⟨j, by omega, h2, h3, fun m hm1 hm2 => ?_, h5⟩
          by_cases e : m = i
          · subst e; exact hp
          · exact h4 m (by omega) hm2
        · refine .inr ⟨fun j hj1 hj2 => ?_, h2⟩
          by_cases e : j = i
          · subst e; exact hp
          · exact h1 j (by omega) hj2
    · have : i = n := by omega
      subst this; exact .inr ⟨fun j h1 h2 => by omega, he k⟩
/-- The same for a Bool: do all places pass? -/
theorem for_all {n : Nat} {L : Nat → Nat → Option Bool} (p : Nat → Prop) (hs : ∀ k i, i < n → p i → L (k + 1) i = L k (i + 1)) (hb : ∀ k i, i < n → ¬ p i → L (k + 1) i = some false) (c : Bool) (he : ∀ k, L (k + 1) n = some c) {q : Bool}
    (hq : q = true ↔ (∀ j, j < n → p j) ∧ c = true) (k : Nat) (hk : n < k) : L k 0 = some q := by
  rcases for_find n L (fun i => ¬ p i) (fun _ => false) c (fun k i h hp => hs k i h (Classical.not_not.1 hp)) (fun k i h hp => hb k i h hp) he k 0 (Nat.zero_le _) (by omega) with ⟨j, _, h2, h3, _, h5⟩ | ⟨h1, h2⟩
  · rw [h5]; congr 1; symm
    rw [Bool.eq_false_iff]; intro hh; exact h3 ((hq.1 hh).1 j h2)
  · rw [h2]; congr 1
    have : ∀ j, j < n → p j := fun j hj => Classical.not_not.1 (h1 j (Nat.zero_le _) hj)
    rw [Bool.eq_iff_iff, hq]; exact ⟨fun h => ⟨this, h⟩, fun h => h.2⟩
/-- What is written, place by place. -/
theorem set_step {α : Type} (a b : List α) (i : Nat) (hi : i < a.length) (hb : b.length = a.length) : (a.take i ++ b.drop i).set i (a[i]'hi) = a.take (i + 1) ++ b.drop (i + 1) := by
  rw [List.set_append_right _ _ (by simp; omega), List.length_take, Nat.min_eq_left (by omega), Nat.sub_self, List.take_succ_eq_append_getElem hi, List.append_assoc]
  congr 1
  rw [List.drop_eq_getElem_cons (by omega)]
  rfl
theorem snoc_step {α : Type} (a : List α) (i : Nat) (hi : i < a.length) : a.take i ++ [a[i]'hi] = a.take (i + 1) := by
  rw [List.take_succ_eq_append_getElem hi]
theorem eq_iff_all (a b : List Int) (h : a.length = b.length) : a = b ↔ ∀ j, j < a.length → rd a (j : Int) = rd b (j : Int) := by
  constructor
  · rintro rfl j _; rfl
  · intro hh; refine List.ext_getElem h (fun j h1 h2 => ?_)
    have := hh j h1
    rwa [rd_nat a j h1, rd_nat b j h2] at this
/-- What marks hold: s, s + 1, .. -/
def iota (s : Int) (n : Nat) : List Int := (List.range n).map fun (i : Nat) => s + (i : Int)
theorem iota_length (s : Int) (n : Nat) : (iota s n).length = n := by simp [iota]
theorem iota_get (s : Int) (n i : Nat) (h : i < n) : (iota s n)[i]'(by rw [iota_length]; exact h) = s + i := by simp [iota]
/-- The same as bytes. -/
def iota8 (s : Int) (n : Nat) : List Int := (List.range n).map fun (i : Nat) => (s + (i : Int)) % 256
theorem iota8_length (s : Int) (n : Nat) : (iota8 s n).length = n := by simp [iota8]
theorem iota8_get (s : Int) (n i : Nat) (h : i < n) : (iota8 s n)[i]'(by rw [iota8_length]; exact h) = (s + i) % 256 := by simp [iota8]
theorem wraps_i64 (n : Int) (h0 : 0 ≤ n) (h1 : n < 2 ^ 62) : IntKind.i64.wrap n = n := by rw [IntKind.wrap_i64]; omega
theorem and255 (x : Int) (h0 : 0 ≤ x) (h : x ≤ 65535) : Go.bits .and .i64 x 255 = x % 256 := bits_mask .i64 62 (by decide) wraps_i64 8 (by decide) x h0 (by omega)
/-- Does a search find something. -/
theorem idx_any {n : Nat} (L : Nat → Nat → Option Int) (q : Nat → Bool) (hs : ∀ k i, i < n → q i = false → L (k + 1) i = L k (i + 1)) (hb : ∀ k i, i < n → q i = true → L (k + 1) i = some (i : Int)) (he : ∀ k, L (k + 1) n = some (-1)) (r : Bool)
    (hr : r = true ↔ ∃ j, j < n ∧ q j = true) (k : Nat) (hk : n < k) : ∃ v, L k 0 = some v ∧ decide (v ≥ 0) = r := by
  rcases for_find n L (fun i => q i = true) (fun i => (i : Int)) (-1) (fun k i h hp => hs k i h (by simpa using hp)) hb he k 0 (Nat.zero_le _) (by omega) with ⟨j, _, h2, h3, _, h5⟩ | ⟨h1, h2⟩
  · refine ⟨_, h5, ?_⟩
    rw [decide_eq_true (by omega : (j : Int) ≥ 0)]; exact (hr.2 ⟨j, h2, h3⟩).symm
  · refine ⟨_, h2, ?_⟩
    rw [decide_eq_false (by omega : ¬ (-1 : Int) ≥ 0)]; symm; rw [Bool.eq_false_iff]; intro hh
    obtain ⟨j, hj, hq⟩ := hr.1 hh
    exact h1 j (Nat.zero_le _) hj hq
/-- A count that goes down, item by item, and stops below nothing. -/
theorem sz_loop {n C : Nat} {M : Int} (L : Nat → Nat → Int → Option Int) (P : Nat → Prop) (hs : ∀ k i a, i < n → C ≤ k → 0 ≤ a → a ≤ M → (∃ r, r < 0 ∧ L (k + 1) i a = some r) ∨ ∃ t, 0 ≤ t ∧ t ≤ a ∧ P i ∧ L (k + 1) i a = L k (i + 1) t)
    (he : ∀ k a, L (k + 1) n a = some a) : ∀ (m i : Nat) (a : Int), i ≤ n → n < i + m → 0 ≤ a → a ≤ M → ∃ r, L (m + C) i a = some r ∧ r ≤ a ∧ (0 ≤ r → ∀ j, i ≤ j → j < n → P j)
  | 0, i, a, hi, hm, _, _ => by omega
  | m + 1, i, a, hi, hm, h0, h1 => by
    rw [show m + 1 + C = (m + C) + 1 by omega]
    by_cases h : i < n
    · rcases hs (m + C) i a h (by omega) h0 h1 with ⟨r, hr, e⟩ | ⟨t, ht0, ht, hp, e⟩
      · exact ⟨r, e, by omega, fun h => by omega⟩
      · obtain ⟨r, e2, hr, hq⟩ := sz_loop L P hs he m (i + 1) t (by omega) (by omega) ht0 (by omega)
        refine ⟨r, by rw [e, e2], by omega, fun h0 j hj1 hj2 => ?_⟩
        by_cases c : j = i
        · subst c; exact hp
        · exact hq h0 j (by omega) hj2
    · have : i = n := by omega
      subst this
      exact ⟨a, he _ _, Int.le_refl _, fun _ j h1 h2 => by omega⟩
/-- A list made place by place. -/
theorem to_loop {α : Type} {C : Nat} (v z : List α) (hz : z.length = v.length) (L : Nat → Nat → List α → Option (List α)) (hs : ∀ k i s (hi : i < v.length), C ≤ k → s.length = v.length → L (k + 1) i s = L k (i + 1) (s.set i (v[i]'hi)))
    (he : ∀ k s, L (k + 1) v.length s = some s) (k : Nat) (hk : v.length + C < k) : L k 0 z = some v := by
  have h := for_st v.length (fun k' i (s : List α) => L (k' + C) i s) (fun i => v.take i ++ z.drop i) v ?_ ?_ (k - C) 0 (Nat.zero_le _) (by omega)
  · rw [show k - C + C = k by omega] at h; simpa using h
  · intro k' i hi
    rw [show k' + 1 + C = (k' + C) + 1 by omega, hs _ _ _ hi (by omega) (by simp; omega), set_step _ _ _ hi hz]
  · intro k'
    rw [show k' + 1 + C = (k' + C) + 1 by omega, he, List.take_of_length_le (Nat.le_refl _), List.drop_of_length_le (by omega), List.append_nil]
/-- Equal, place by place. -/
theorem same_loop {n C : Nat} (L : Nat → Nat → Option Bool) (hs : ∀ k i, i < n → C ≤ k → L (k + 1) i = L k (i + 1)) (he : ∀ k, L (k + 1) n = some true) (k : Nat) (hk : n + C < k) : L k 0 = some true := by
  have h := for_st n (fun k' i (_ : Unit) => L (k' + C) i) (fun _ => ()) true ?_ ?_ (k - C) 0 (Nat.zero_le _) (by omega)
  · rw [show k - C + C = k by omega] at h; exact h
  · intro k' i hi; rw [show k' + 1 + C = (k' + C) + 1 by omega, hs _ _ hi (by omega)]
  · intro k'; rw [show k' + 1 + C = (k' + C) + 1 by omega, he]
theorem l1In_eq (x lo hi : Int) : spec_l1In.f x lo hi = some (decide (lo ≤ x ∧ x ≤ hi)) := by
  unfold spec_l1In.f
  by_cases h : x ≥ lo
  · rw [if_pos h]; have h' : lo ≤ x := h; simp [h']
  · rw [if_neg h]; have h' : ¬ lo ≤ x := h; simp [h']
theorem from_eq (x lo hi : Int) : impl_from.f x lo hi = some (decide (lo ≤ x ∧ x ≤ hi)) := by
  unfold impl_from.f
  by_cases h : x ≥ lo
  · rw [if_pos h]; have h' : lo ≤ x := h; simp [h']
  · rw [if_neg h]; have h' : ¬ lo ≤ x := h; simp [h']
theorem ite_some (b c : Bool) : (if b = true then some c else some false) = some (b && c) := by cases b <;> rfl
theorem l8Field_eq (x m : Int) (h : Bool) : spec_l8Field.f x m h = some (decide (0 ≤ x ∧ x ≤ m) && (h || decide (x = 0))) := by
  unfold spec_l8Field.f
  rw [l1In_eq, Option.bind_some]
  have e : (x == 0) = decide (x = 0) := rfl
  rw [e]
  cases h <;> simp only [if_true, Bool.false_eq_true, if_false, Bool.true_or, Bool.false_or, ite_some]
theorem specInsOk_eq (o r a b n : Int) : spec_InsOk.f o r a b n = some (insOkB o r a b n) := by
  unfold spec_InsOk.f spec_l8Has.f
  simp only [l1In_eq, l8Field_eq, Option.bind_some, ite_some]
  by_cases ho : 1 ≤ o ∧ o ≤ 10
  · have hc : o = 1 ∨ o = 2 ∨ o = 3 ∨ o = 4 ∨ o = 5 ∨ o = 6 ∨ o = 7 ∨ o = 8 ∨ o = 9 ∨ o = 10 := by omega
    rw [decide_eq_true ho]
    rcases hc with rfl | rfl | rfl | rfl | rfl | rfl | rfl | rfl | rfl | rfl <;>
      (simp only [if_true, Option.bind_some, List.length_cons, List.length_nil]
       rw [if_pos (by omega), if_pos (by omega)]
       simp only [rd, Option.bind_some, Bool.true_and]
       congr 1
       rw [Bool.eq_iff_iff]
       simp [insOkB, show Go.bits .and .i64 0 1 = 0 by decide, show Go.bits .and .i64 0 2 = 0 by decide, show Go.bits .and .i64 0 4 = 0 by decide, show Go.bits .and .i64 0 8 = 0 by decide,
        show Go.bits .and .i64 7 1 = 1 by decide, show Go.bits .and .i64 7 2 = 2 by decide, show Go.bits .and .i64 7 4 = 4 by decide, show Go.bits .and .i64 7 8 = 0 by decide,
        show Go.bits .and .i64 8 1 = 0 by decide, show Go.bits .and .i64 8 2 = 0 by decide, show Go.bits .and .i64 8 4 = 0 by decide, show Go.bits .and .i64 8 8 = 8 by decide,
        show Go.bits .and .i64 9 1 = 1 by decide, show Go.bits .and .i64 9 2 = 0 by decide, show Go.bits .and .i64 9 4 = 0 by decide, show Go.bits .and .i64 9 8 = 8 by decide,
        show Go.bits .and .i64 10 1 = 0 by decide, show Go.bits .and .i64 10 2 = 2 by decide, show Go.bits .and .i64 10 4 = 0 by decide, show Go.bits .and .i64 10 8 = 8 by decide,
        show Go.bits .and .i64 11 1 = 1 by decide, show Go.bits .and .i64 11 2 = 2 by decide, show Go.bits .and .i64 11 4 = 0 by decide, show Go.bits .and .i64 11 8 = 8 by decide,
        show Go.bits .and .i64 14 1 = 0 by decide, show Go.bits .and .i64 14 2 = 2 by decide, show Go.bits .and .i64 14 4 = 4 by decide, show Go.bits .and .i64 14 8 = 8 by decide,
        show Go.bits .and .i64 15 1 = 1 by decide, show Go.bits .and .i64 15 2 = 2 by decide, show Go.bits .and .i64 15 4 = 4 by decide, show Go.bits .and .i64 15 8 = 8 by decide]
       try omega)
  · have hn : ∀ c, 1 ≤ c → c ≤ 10 → o ≠ c := fun c h1 h2 e => ho (by omega)
    simp [ho, insOkB, hn]
theorem szInsS_ex (l : List S162) (hm : l.length ≤ maxLen) (a : Int) (h0 : 0 ≤ a) (h1 : a ≤ 1048576) : ∃ r, laws_szInsS.f l a = some r ∧ r ≤ a ∧ (0 ≤ r → l.length ≤ 1048576) := by
  unfold laws_szInsS.f
  have e : wrap64 (a - (l.length : Int)) = a - (l.length : Int) := by unfold maxLen at hm; unfold wrap64; omega
  rw [e]
  by_cases h : a - (l.length : Int) < 0
  · rw [if_pos h]; exact ⟨_, rfl, by omega, fun h => by omega⟩
  · rw [if_neg h]; exact ⟨_, rfl, by omega, fun _ => by omega⟩
theorem rdLRef (l : List S159) (i : Nat) (h : i < l.length) : rd_T159 l (i : Int) = l[i] := by
  unfold rd_T159; simp [List.getD, h]
theorem szRefS_ex (l : List S159) (hm : l.length ≤ maxLen) (hx : ∀ x ∈ l, x.f1.size ≤ maxLen) (a : Int) (h0 : 0 ≤ a) (h1 : a ≤ 1048576) (k : Nat) (hk : 1048580 < k) : ∃ r, laws_szRefS.f k l a = some r ∧ r ≤ a ∧ (0 ≤ r → l.length ≤ 1048576 ∧ ∀ y ∈ l, y.f1.size ≤ 1048576) := by
  unfold laws_szRefS.f
  have e : wrap64 (a - (l.length : Int)) = a - (l.length : Int) := by unfold maxLen at hm; unfold wrap64; omega
  rw [e]
  by_cases h : a - (l.length : Int) < 0
  · rw [if_pos h]; exact ⟨_, rfl, by omega, fun h => by omega⟩
  · rw [if_neg h]
    have H := sz_loop (n := l.length) (C := 0) (M := 1048576) (fun k i a => laws_szRefS.l0 k l a (i : Int)) (fun i => ∀ x, l[i]? = some x → x.f1.size ≤ 1048576) ?_ ?_ k 0 (a - (l.length : Int)) (Nat.zero_le _) (by omega) (by omega) (by omega)
    · obtain ⟨r, e, hr, hp⟩ := H
      refine ⟨r, e, by omega, fun h => ⟨by omega, fun x hx => ?_⟩⟩
      obtain ⟨j, hj, rfl⟩ := List.getElem_of_mem hx
      exact hp h j (Nat.zero_le _) hj _ (List.getElem?_eq_getElem hj)
    · intro k i a hi _ h0 h1
      have hs := hx _ (List.getElem_mem hi)
      have ew : wrap64 (a - ((l[i]).f1.size : Int)) = a - ((l[i]).f1.size : Int) := by unfold maxLen at hs; unfold wrap64; omega
      simp only [laws_szRefS.l0, laws_szRef.f]
      rw [if_pos (by omega), if_pos (by omega), rdLRef l i hi, ew]
      by_cases hh : a - ((l[i]).f1.size : Int) < 0
      · rw [if_pos hh, Option.bind_some, if_pos (by omega)]; exact .inl ⟨_, by omega, rfl⟩
      · rw [if_neg hh, Option.bind_some, if_neg hh, wrap_succ (by omega)]; exact .inr ⟨_, by omega, by omega, fun x hx' => by rw [List.getElem?_eq_getElem hi] at hx'; rw [← Option.some.inj hx']; omega, rfl⟩
    · intro k a
      simp only [laws_szRefS.l0]
      rw [if_neg (by omega)]
/-- A part as it may come in. -/
def partIn (n : ByteArray) (l : List S162) (r : List S159) : Prop := n.size ≤ maxLen ∧ l.length ≤ maxLen ∧ r.length ≤ maxLen ∧ ∀ y ∈ r, y.f1.size ≤ maxLen
def partLens (n : ByteArray) (l : List S162) (r : List S159) : Prop := n.size ≤ 1048576 ∧ l.length ≤ 1048576 ∧ r.length ≤ 1048576 ∧ ∀ y ∈ r, y.f1.size ≤ 1048576
theorem szPart_ex (n : ByteArray) (l : List S162) (r : List S159) (hx : partIn n l r) (a : Int) (h0 : 0 ≤ a) (h1 : a ≤ 1048576) (k : Nat) (hk : 1048580 < k) : ∃ q, laws_szPart.f k n l r a = some q ∧ q ≤ a ∧ (0 ≤ q → partLens n l r) := by
  obtain ⟨hs, hl, hr, hy⟩ := hx
  unfold laws_szPart.f
  have e : wrap64 (a - (n.size : Int)) = a - (n.size : Int) := by unfold maxLen at hs; unfold wrap64; omega
  rw [e]
  by_cases h : a - (n.size : Int) < 0
  · rw [if_pos h]; exact ⟨_, rfl, by omega, fun h => by omega⟩
  · rw [if_neg h]
    obtain ⟨r1, e1, q1, p1⟩ := szInsS_ex l hl (a - (n.size : Int)) (by omega) (by omega)
    rw [e1, Option.bind_some]
    by_cases h2 : r1 < 0
    · rw [if_pos h2]; exact ⟨_, rfl, by omega, fun h => by omega⟩
    · rw [if_neg h2]
      obtain ⟨r2, e2, q2, p2⟩ := szRefS_ex r hr hy r1 (by omega) (by omega) k hk
      rw [e2, Option.bind_some]
      by_cases h3 : r2 < 0
      · rw [if_pos h3]; exact ⟨_, rfl, by omega, fun h => by omega⟩
      · rw [if_neg h3]; exact ⟨_, rfl, by omega, fun h => ⟨by omega, p1 (by omega), (p2 (by omega)).1, (p2 (by omega)).2⟩⟩
def toInsV (x : S162) : S54 := ⟨x.f0, x.f1, x.f2, x.f3, x.f4⟩
theorem rdLIns (l : List S162) (i : Nat) (h : i < l.length) : rd_T162 l (i : Int) = l[i] := by
  unfold rd_T162; simp [List.getD, h]
theorem toInsS_eq (l : List S162) (hl : l.length ≤ 1048576) (k : Nat) (hk : 1048580 < k) : laws_toInsS.f k l = some (l.map toInsV) := by
  unfold laws_toInsS.f
  rw [if_pos (by omega), if_pos (by simp; omega)]
  refine to_loop (C := 0) (l.map toInsV) _ (by simp) (fun k i s => laws_toInsS.l0 k l s (i : Int)) ?_ ?_ k (by simp; omega)
  · intro k i s hi _ hsl
    have hi' : i < l.length := by simpa using hi
    simp only [laws_toInsS.l0]
    rw [if_pos (by omega), if_pos (by omega), rdLIns l i hi', laws_toIns.f, Option.bind_some, if_pos (by simp at hsl; omega), wrap_succ (by omega), Int.toNat_natCast]
    simp [toInsV]
  · intro k s
    simp only [laws_toInsS.l0]
    rw [if_neg (by simp)]
def toRefV (x : S159) : S87 := ⟨x.f0, x.f1⟩
theorem rdLRef' (l : List S159) (i : Nat) (h : i < l.length) : rd_T159 l (i : Int) = l[i] := by
  unfold rd_T159; simp [List.getD, h]
theorem toRefS_eq (l : List S159) (hl : l.length ≤ 1048576) (k : Nat) (hk : 1048580 < k) : laws_toRefS.f k l = some (l.map toRefV) := by
  unfold laws_toRefS.f
  rw [if_pos (by omega), if_pos (by simp; omega)]
  refine to_loop (C := 0) (l.map toRefV) _ (by simp) (fun k i s => laws_toRefS.l0 k l s (i : Int)) ?_ ?_ k (by simp; omega)
  · intro k i s hi _ hsl
    have hi' : i < l.length := by simpa using hi
    simp only [laws_toRefS.l0]
    rw [if_pos (by omega), if_pos (by omega), rdLRef' l i hi', laws_toRef.f, Option.bind_some, if_pos (by simp at hsl; omega), wrap_succ (by omega), Int.toNat_natCast]
    simp [toRefV]
  · intro k s
    simp only [laws_toRefS.l0]
    rw [if_neg (by simp)]
theorem toPart_eq (n : ByteArray) (l : List S162) (r : List S159) (hx : partLens n l r) (k : Nat) (hk : 1048580 < k) : laws_toPart.f k n l r = some (n, l.map toInsV, r.map toRefV) := by
  unfold laws_toPart.f
  rw [toInsS_eq _ hx.2.1 k hk, Option.bind_some, toRefS_eq _ hx.2.2.1 k hk, Option.bind_some]
theorem rdInsE (l : List S54) (i : Nat) (h : i < l.length) : rd_T54 l (i : Int) = l[i] := by
  unfold rd_T54; simp [List.getD, h]
theorem eqInsS_same (l : List S54) (hl : l.length ≤ 1048576) (k : Nat) (hk : 1048580 < k) : laws_eqInsS.f k l l = some true := by
  unfold laws_eqInsS.f
  rw [if_pos rfl]
  refine same_loop (C := 0) (n := l.length) (fun k i => laws_eqInsS.l0 k l l (i : Int)) ?_ ?_ k (by omega)
  · intro k i hi _
    simp only [laws_eqInsS.l0]
    rw [if_pos (by omega), if_pos (by omega), if_pos (by omega), laws_eqIns.f, if_pos rfl, if_pos rfl, if_pos rfl, if_pos rfl, if_pos rfl, Option.bind_some, if_pos rfl, wrap_succ (by omega)]
  · intro k
    simp only [laws_eqInsS.l0]
    rw [if_neg (by omega)]
theorem rdRefE (l : List S87) (i : Nat) (h : i < l.length) : rd_T87 l (i : Int) = l[i] := by
  unfold rd_T87; simp [List.getD, h]
theorem eqRefS_same (l : List S87) (hl : l.length ≤ 1048576) (k : Nat) (hk : 1048580 < k) : laws_eqRefS.f k l l = some true := by
  unfold laws_eqRefS.f
  rw [if_pos rfl]
  refine same_loop (C := 0) (n := l.length) (fun k i => laws_eqRefS.l0 k l l (i : Int)) ?_ ?_ k (by omega)
  · intro k i hi _
    simp only [laws_eqRefS.l0]
    rw [if_pos (by omega), if_pos (by omega), if_pos (by omega), laws_eqRef.f, if_pos rfl, if_pos rfl, Option.bind_some, if_pos rfl, wrap_succ (by omega)]
  · intro k
    simp only [laws_eqRefS.l0]
    rw [if_neg (by omega)]
theorem eqPart_same (n : ByteArray) (l : List S54) (r : List S87) (hl : l.length ≤ 1048576) (hr : r.length ≤ 1048576) (k : Nat) (hk : 1048580 < k) : laws_eqPart.f k n l r n l r = some true := by
  unfold laws_eqPart.f
  rw [if_pos rfl, eqInsS_same l hl k hk, Option.bind_some, if_pos rfl, eqRefS_same r hr k hk, Option.bind_some, if_pos rfl]
/-- Is it a name: one to eight small letters. -/
def nameB (s : ByteArray) : Bool := (List.range s.size).all (fun j => decide (97 ≤ bt s (j : Int) ∧ bt s (j : Int) ≤ 122)) && decide (1 ≤ (s.size : Int) ∧ (s.size : Int) ≤ 8)
theorem nameB_iff (s : ByteArray) : nameB s = true ↔ (∀ j, j < s.size → 97 ≤ bt s (j : Int) ∧ bt s (j : Int) ≤ 122) ∧ decide (1 ≤ (s.size : Int) ∧ (s.size : Int) ≤ 8) = true := by
  unfold nameB; rw [Bool.and_eq_true, List.all_eq_true]
  constructor
  · rintro ⟨h1, h2⟩; exact ⟨fun j hj => of_decide_eq_true (h1 j (List.mem_range.2 hj)), h2⟩
  · rintro ⟨h1, h2⟩; exact ⟨fun j hj => decide_eq_true (h1 j (List.mem_range.1 hj)), h2⟩
theorem nameOk_eq (s : ByteArray) (hs : s.size ≤ 1048576) (k : Nat) (hk : 1048580 < k) : impl_nameOk.f k s = some (nameB s) := by
  unfold impl_nameOk.f
  refine for_all (L := fun k i => impl_nameOk.l0 k s (s.size : Int) (i : Int)) (n := s.size) (fun j => 97 ≤ bt s (j : Int) ∧ bt s (j : Int) ≤ 122) ?_ ?_ (decide (1 ≤ (s.size : Int) ∧ (s.size : Int) ≤ 8)) ?_ (nameB_iff s) k (by omega)
  · intro k i hi hp
    simp only [impl_nameOk.l0]
    rw [if_pos (by omega), if_pos (by omega), if_pos (by omega), if_neg (by omega), if_neg (by omega), wrap_succ (by omega)]
  · intro k i hi hp
    simp only [impl_nameOk.l0]
    rw [if_pos (by omega), if_pos (by omega), if_pos (by omega)]
    by_cases h : bt s (i : Int) < 97
    · rw [if_pos h]
    · rw [if_neg h, if_pos (by omega)]
  · intro k
    simp only [impl_nameOk.l0]
    rw [if_neg (by omega), from_eq, Option.bind_some]
theorem l27Name_eq (s : ByteArray) (hs : s.size ≤ 1048576) (k : Nat) (hk : 1048580 < k) : spec_l27Name.f k s = some (nameB s) := by
  unfold spec_l27Name.f
  refine for_all (L := fun k i => spec_l27Name.l0 k s (i : Int)) (n := s.size) (fun j => 97 ≤ bt s (j : Int) ∧ bt s (j : Int) ≤ 122) ?_ ?_ (decide (1 ≤ (s.size : Int) ∧ (s.size : Int) ≤ 8)) ?_ (nameB_iff s) k (by omega)
  · intro k i hi hp
    simp only [spec_l27Name.l0]
    rw [if_pos (by omega), if_pos (by omega), if_neg (by omega), if_neg (by omega), wrap_succ (by omega)]
  · intro k i hi hp
    simp only [spec_l27Name.l0]
    rw [if_pos (by omega), if_pos (by omega)]
    by_cases h : bt s (i : Int) < 97
    · rw [if_pos h]
    · rw [if_neg h, if_pos (by omega)]
  · intro k
    simp only [spec_l27Name.l0]
    rw [if_neg (by omega), l1In_eq, Option.bind_some]
theorem rdRef' (l : List S87) (i : Nat) (h : i < l.length) : rd_T87 l (i : Int) = l[i] := by
  unfold rd_T87; simp [List.getD, h]
theorem rdIns' (l : List S54) (i : Nat) (h : i < l.length) : rd_T54 l (i : Int) = l[i] := by
  unfold rd_T54; simp [List.getD, h]
theorem refIdx_first (a : Int) : ∀ (l : List S87) (s i : Nat) (hi : i < l.length), (l[i]).f0 = a → (decide (0 ≤ refIdx a (l.take i) s) = !decide (refIdx a l s = ((s + i : Nat) : Int)))
  | [], _, _, hi, _ => absurd hi (by simp)
  | x :: r, s, 0, _, hx => by
    have e : refIdx a (x :: r) s = (s : Int) := by rw [refIdx]; exact if_pos hx
    rw [List.take_zero, e, refIdx]; simp
  | x :: r, s, i + 1, hi, hx => by
    rw [List.take_succ_cons, refIdx, refIdx]
    by_cases h : x.f0 = a
    · rw [if_pos h, if_pos h, decide_eq_true (by omega), decide_eq_false (by omega)]; rfl
    · rw [if_neg h, if_neg h, refIdx_first a r (s + 1) i (by simpa using hi) (by simpa using hx), show s + 1 + i = s + (i + 1) by omega]
theorem l27Ref_eq (n : ByteArray) (l : List S54) (r : List S87) (a : Int) (hr : r.length ≤ 1048576) (k : Nat) (hk : 1048580 < k) : spec_l27Ref.f k n l r a = some (refIdx a r 0) := by
  unfold spec_l27Ref.f
  have h : ∀ k i : Nat, i ≤ r.length → r.length < i + k → spec_l27Ref.l0 k a (i : Int) n l r = some (refIdx a (r.drop i) i) := by
    intro k
    induction k with
    | zero => intro i h1 h2; omega
    | succ k ih =>
      intro i h1 h2
      rw [spec_l27Ref.l0]
      by_cases hi : i < r.length
      · rw [if_pos (by omega), if_pos (by omega), refIdx_drop a r i hi]
        by_cases hn : (rd_T87 r (i : Int)).f0 = a
        · rw [if_pos hn, if_pos hn]
        · rw [if_neg hn, if_neg hn, wrap_succ (by omega)]; exact ih (i + 1) (by omega) (by omega)
      · rw [if_neg (by omega), List.drop_of_length_le (by omega)]; rfl
  exact h k 0 (Nat.zero_le _) (by omega)
def insB (x : S54) : Bool := insOkB x.f0 x.f1 x.f2 x.f3 x.f4
def goesB (x : S54) : Bool := decide (x.f0 = 8 ∨ x.f0 = 7)
/-- Is a reference right: its place is one that goes somewhere, and no earlier one is at this place. -/
def refCond (l : List S54) (r : List S87) (i : Nat) : Bool :=
  decide (0 ≤ (rd_T87 r (i : Int)).f0 ∧ (rd_T87 r (i : Int)).f0 ≤ (l.length : Int) - 1) && (decide (refIdx (rd_T87 r (i : Int)).f0 r 0 = (i : Int)) && (goesB (rd_T54 l (rd_T87 r (i : Int)).f0) && nameB (rd_T87 r (i : Int)).f1))
def refsB (l : List S54) (r : List S87) : Bool := (List.range r.length).all (refCond l r)
def partB (n : ByteArray) (l : List S54) (r : List S87) : Bool := nameB n && (decide (1 ≤ (l.length : Int) ∧ (l.length : Int) ≤ 24) && (decide (r.length ≤ 24) && (l.all insB && refsB l r)))
theorem refsB_iff (l : List S54) (r : List S87) : refsB l r = true ↔ (∀ j, j < r.length → refCond l r j = true) ∧ true = true := by
  unfold refsB; rw [List.all_eq_true]
  exact ⟨fun h => ⟨fun j hj => h j (List.mem_range.2 hj), rfl⟩, fun h j hj => h.1 j (List.mem_range.1 hj)⟩
theorem goes_eq (x : S54) : impl_goesTo.f x.f0 x.f1 x.f2 x.f3 x.f4 = some (goesB x) := by
  unfold impl_goesTo.f goesB
  by_cases h : x.f0 = 8
  · rw [if_pos h]; simp [h]
  · rw [if_neg h]; simp only [h, false_or]; congr 1
theorem l27Goes_eq (x : S54) : spec_l27Goes.f x.f0 x.f1 x.f2 x.f3 x.f4 = some (goesB x) := goes_eq x
theorem implPartOk_eq (n : ByteArray) (l : List S54) (r : List S87) (hn : n.size ≤ 1048576) (hl : l.length ≤ 1048576) (hr : r.length ≤ 1048576) (hx : ∀ x ∈ r, x.f1.size ≤ 1048576) (k : Nat) (hk : 4000000 < k) : impl_PartOk.f k n l r = some (partB n l r) := by
  obtain ⟨k, rfl⟩ : ∃ m, k = m + 1 := ⟨k - 1, by omega⟩
  have jt : impl_PartOk.j0 (k + 1) true n l r = some false := by rw [impl_PartOk.j0, if_pos rfl]
  unfold impl_PartOk.f partB
  rw [nameOk_eq n hn _ (by omega), Option.bind_some]
  by_cases h1 : nameB n = true
  · rw [if_pos h1, h1, from_eq, Option.bind_some, Bool.true_and]
    by_cases h2 : 1 ≤ (l.length : Int) ∧ (l.length : Int) ≤ 24
    · rw [if_pos (decide_eq_true h2), decide_eq_true h2, Bool.true_and]
      by_cases h3 : r.length ≤ 24
      · rw [if_neg (by omega), decide_eq_true h3, Bool.true_and]
        unfold slices_ContainsFunc_at_impl_PartOk_1.f slices_IndexFunc_at_impl_PartOk_1.f
        have hf : ∀ x : S54, impl_PartOk_1.f x.f0 x.f1 x.f2 x.f3 x.f4 = some (!insB x) := fun x => rfl
        have H := idx_any (n := l.length) (fun k i => slices_IndexFunc_at_impl_PartOk_1.l0 k l (l.length : Int) (i : Int)) (fun i => !insB (rd_T54 l (i : Int))) ?_ ?_ ?_ (!(l.all insB)) ?_ (k + 1) (by omega)
        · obtain ⟨v, e, hv⟩ := H
          have e' : slices_IndexFunc_at_impl_PartOk_1.l0 (k + 1) l (l.length : Int) 0 = some v := e
          rw [e', Option.bind_some, Option.bind_some, hv]
          cases hb : l.all insB
          · rw [Bool.not_false, jt, Bool.false_and]
          · rw [Bool.not_true, impl_PartOk.j0, if_neg (by simp), Bool.true_and]
            refine for_all (L := fun k' i => impl_PartOk.l0 (k' + 1048581) r (r.length : Int) (i : Int) n l r) (n := r.length) (fun j => refCond l r j = true) ?_ ?_ true ?_ (refsB_iff l r) (k - 1048581) (by omega) |> fun h => by rw [show k - 1048581 + 1048581 = k by omega] at h; exact h
            · intro k' i hi hp
              have hs : (rd_T87 r (i : Int)).f1.size ≤ 1048576 := by rw [rdRef' r i hi]; exact hx _ (List.getElem_mem hi)
              have hff := refIdx_first (rd_T87 r (i : Int)).f0 r 0 i hi (by rw [rdRef' r i hi])
              rw [Nat.zero_add] at hff
              unfold refCond at hp
              rw [Bool.and_eq_true, Bool.and_eq_true, Bool.and_eq_true] at hp
              obtain ⟨p1, p2, p3, p4⟩ := hp
              have q1 := of_decide_eq_true p1
              rw [show k' + 1 + 1048581 = (k' + 1048581) + 1 by omega, impl_PartOk.l0, if_pos (by omega), if_pos (by omega), if_pos (by omega), wrap_small (by omega) (by omega), from_eq, p1, Option.bind_some, if_pos rfl, if_pos (by omega), Int.toNat_natCast, impl_isRef.f, hff, p2, Option.bind_some, if_neg (by simp), if_pos q1.1, if_pos (by omega), goes_eq, p3, Option.bind_some, if_pos rfl, nameOk_eq _ hs _ (by omega), p4, Option.bind_some, if_pos rfl, wrap_succ (by omega)]
            · intro k' i hi hp
              have hs : (rd_T87 r (i : Int)).f1.size ≤ 1048576 := by rw [rdRef' r i hi]; exact hx _ (List.getElem_mem hi)
              have hff := refIdx_first (rd_T87 r (i : Int)).f0 r 0 i hi (by rw [rdRef' r i hi])
              rw [Nat.zero_add] at hff
              rw [show k' + 1 + 1048581 = (k' + 1048581) + 1 by omega, impl_PartOk.l0, if_pos (by omega), if_pos (by omega), if_pos (by omega), wrap_small (by omega) (by omega), from_eq, Option.bind_some]
              by_cases q1 : 0 ≤ (rd_T87 r (i : Int)).f0 ∧ (rd_T87 r (i : Int)).f0 ≤ (l.length : Int) - 1
              · rw [if_pos (decide_eq_true q1), if_pos (by omega), Int.toNat_natCast, impl_isRef.f, hff, Option.bind_some]
                by_cases q2 : refIdx (rd_T87 r (i : Int)).f0 r 0 = (i : Int)
                · rw [decide_eq_true q2, if_neg (by simp), if_pos q1.1, if_pos (by omega), goes_eq, Option.bind_some]
                  by_cases q3 : goesB (rd_T54 l (rd_T87 r (i : Int)).f0) = true
                  · rw [if_pos q3, nameOk_eq _ hs _ (by omega), Option.bind_some]
                    have q4 : ¬ nameB (rd_T87 r (i : Int)).f1 = true := fun q4 => hp (by unfold refCond; rw [decide_eq_true q1, decide_eq_true q2, q3, q4]; rfl)
                    rw [if_neg q4]
                  · rw [if_neg q3]
                · rw [decide_eq_false q2, if_pos (by simp)]
              · rw [if_neg (by simpa using q1)]
            · intro k'
              rw [show k' + 1 + 1048581 = (k' + 1048581) + 1 by omega, impl_PartOk.l0, if_neg (by omega)]
        · intro k i hi hq
          simp only [slices_IndexFunc_at_impl_PartOk_1.l0]
          rw [if_pos (by omega), if_pos (by omega), if_pos (by omega), hf, hq, Option.bind_some, if_neg (by simp), wrap_succ (by omega)]
        · intro k i hi hq
          simp only [slices_IndexFunc_at_impl_PartOk_1.l0]
          rw [if_pos (by omega), if_pos (by omega), if_pos (by omega), hf, hq, Option.bind_some, if_pos rfl]
        · intro k
          simp only [slices_IndexFunc_at_impl_PartOk_1.l0]
          rw [if_neg (by omega)]
        · constructor
          · intro h
            refine Classical.byContradiction fun hn => ?_
            have : l.all insB = true := List.all_eq_true.2 fun x hx => by
              obtain ⟨j, hj, rfl⟩ := List.getElem_of_mem hx
              refine Classical.byContradiction fun hh => hn ⟨j, hj, ?_⟩
              rw [rdIns' l j hj, Bool.eq_false_iff.2 hh]; rfl
            rw [this] at h; exact absurd h (by simp)
          · rintro ⟨j, hj, hq⟩
            cases hc' : l.all insB
            · rfl
            · have := List.all_eq_true.1 hc' _ (List.getElem_mem hj)
              rw [rdIns' l j hj, this] at hq; exact absurd hq (by simp)
      · rw [if_pos (by omega), jt, decide_eq_false h3, Bool.false_and]
    · rw [if_neg (by simpa using h2), jt, decide_eq_false h2, Bool.false_and]
  · rw [if_neg h1, jt, Bool.eq_false_iff.2 h1, Bool.false_and]
theorem specPartOk_eq (n : ByteArray) (l : List S54) (r : List S87) (hn : n.size ≤ 1048576) (hl : l.length ≤ 1048576) (hr : r.length ≤ 1048576) (hx : ∀ x ∈ r, x.f1.size ≤ 1048576) (k : Nat) (hk : 5000000 < k) : spec_PartOk.f k n l r = some (partB n l r) := by
  unfold spec_PartOk.f
  have hj : ∀ k, 3500000 < k → spec_PartOk.l1 k 0 n l r = some (refsB l r) := by
    intro k hk
    refine for_all (L := fun k' i => spec_PartOk.l1 (k' + 1048581) (i : Int) n l r) (n := r.length) (fun j => refCond l r j = true) ?_ ?_ true ?_ (refsB_iff l r) (k - 1048581) (by omega) |> fun h => by rw [show k - 1048581 + 1048581 = k by omega] at h; exact h
    · intro k' i hi hp
      have hs : (rd_T87 r (i : Int)).f1.size ≤ 1048576 := by rw [rdRef' r i hi]; exact hx _ (List.getElem_mem hi)
      unfold refCond at hp
      rw [Bool.and_eq_true, Bool.and_eq_true, Bool.and_eq_true] at hp
      obtain ⟨p1, p2, p3, p4⟩ := hp
      have q1 := of_decide_eq_true p1
      rw [show k' + 1 + 1048581 = (k' + 1048581) + 1 by omega, spec_PartOk.l1, if_pos (by omega), if_pos (by omega), wrap_small (by omega) (by omega), l1In_eq, p1, Option.bind_some, if_pos rfl, if_pos q1.1, if_pos (by omega), l27Goes_eq, p3, Option.bind_some, if_pos rfl, l27Name_eq _ hs _ (by omega), p4, Option.bind_some, if_pos rfl, l27Ref_eq n l r _ hr _ (by omega), Option.bind_some, if_pos (of_decide_eq_true p2), wrap_succ (by omega)]
    · intro k' i hi hp
      have hs : (rd_T87 r (i : Int)).f1.size ≤ 1048576 := by rw [rdRef' r i hi]; exact hx _ (List.getElem_mem hi)
      rw [show k' + 1 + 1048581 = (k' + 1048581) + 1 by omega, spec_PartOk.l1, if_pos (by omega), if_pos (by omega), wrap_small (by omega) (by omega), l1In_eq, Option.bind_some]
      by_cases q1 : 0 ≤ (rd_T87 r (i : Int)).f0 ∧ (rd_T87 r (i : Int)).f0 ≤ (l.length : Int) - 1
      · rw [if_pos (decide_eq_true q1), if_pos q1.1, if_pos (by omega), l27Goes_eq, Option.bind_some]
        by_cases q3 : goesB (rd_T54 l (rd_T87 r (i : Int)).f0) = true
        · rw [if_pos q3, l27Name_eq _ hs _ (by omega), Option.bind_some]
          by_cases q4 : nameB (rd_T87 r (i : Int)).f1 = true
          · rw [if_pos q4, l27Ref_eq n l r _ hr _ (by omega), Option.bind_some]
            have q2 : ¬ refIdx (rd_T87 r (i : Int)).f0 r 0 = (i : Int) := fun q2 => hp (by unfold refCond; rw [decide_eq_true q1, decide_eq_true q2, q3, q4]; rfl)
            rw [if_neg q2]
          · rw [if_neg q4]
        · rw [if_neg q3]
      · rw [if_neg (by simpa using q1)]
    · intro k'
      rw [show k' + 1 + 1048581 = (k' + 1048581) + 1 by omega, spec_PartOk.l1, if_neg (by omega)]
  have hins : ∀ x : S54, spec_InsOk.f x.f0 x.f1 x.f2 x.f3 x.f4 = some (insB x) := fun x => specInsOk_eq _ _ _ _ _
  refine for_all (L := fun k' i => spec_PartOk.l0 (k' + 3600000) (i : Int) n l r) (n := l.length) (fun j => insB (rd_T54 l (j : Int)) = true) ?_ ?_ (nameB n && (decide (1 ≤ (l.length : Int) ∧ (l.length : Int) ≤ 24) && (decide (r.length ≤ 24) && refsB l r))) ?_ (q := partB n l r) ?_ (k - 3600000) (by omega) |> fun h => by rw [show k - 3600000 + 3600000 = k by omega] at h; exact h
  · intro k' i hi hp
    rw [show k' + 1 + 3600000 = (k' + 3600000) + 1 by omega, spec_PartOk.l0, if_pos (by omega), if_pos (by omega), hins, hp, Option.bind_some, if_pos rfl, wrap_succ (by omega)]
  · intro k' i hi hp
    rw [show k' + 1 + 3600000 = (k' + 3600000) + 1 by omega, spec_PartOk.l0, if_pos (by omega), if_pos (by omega), hins, Option.bind_some, if_neg hp]
  · intro k'
    have jt : spec_PartOk.j1 (k' + 3600000) true n l r = some false := by rw [show k' + 3600000 = (k' + 3599999) + 1 by omega, spec_PartOk.j1, if_pos rfl]
    have jf : spec_PartOk.j1 (k' + 3600000) false n l r = some (refsB l r) := by rw [show k' + 3600000 = (k' + 3599999) + 1 by omega, spec_PartOk.j1, if_neg (by simp)]; exact hj _ (by omega)
    rw [show k' + 1 + 3600000 = (k' + 3600000) + 1 by omega, spec_PartOk.l0, if_neg (by omega), l27Name_eq n hn _ (by omega), Option.bind_some]
    by_cases h1 : nameB n = true
    · rw [if_pos h1, h1, l1In_eq, Option.bind_some, Bool.true_and]
      by_cases h2 : 1 ≤ (l.length : Int) ∧ (l.length : Int) ≤ 24
      · rw [if_pos (decide_eq_true h2), decide_eq_true h2, Bool.true_and]
        by_cases h3 : r.length ≤ 24
        · rw [decide_eq_false (by omega : ¬ (r.length : Int) > 24), jf, decide_eq_true h3, Bool.true_and]
        · rw [decide_eq_true (by omega : (r.length : Int) > 24), jt, decide_eq_false h3, Bool.false_and]
      · rw [if_neg (by simpa using h2), jt, decide_eq_false h2, Bool.false_and]
    · rw [if_neg h1, jt, Bool.eq_false_iff.2 h1, Bool.false_and]
  · have ha : l.all insB = true ↔ ∀ j, j < l.length → insB (rd_T54 l (j : Int)) = true := by
      rw [List.all_eq_true]
      constructor
      · intro h j hj; rw [rdIns' l j hj]; exact h _ (List.getElem_mem hj)
      · intro h x hx
        obtain ⟨j, hj, rfl⟩ := List.getElem_of_mem hx
        have := h j hj; rwa [rdIns' l j hj] at this
    unfold partB
    simp only [Bool.and_eq_true]
    rw [← ha]
    constructor
    · rintro ⟨h1, h2, h3, h4, h5⟩; exact ⟨h4, h1, h2, h3, h5⟩
    · rintro ⟨h4, h1, h2, h3, h5⟩; exact ⟨h1, h2, h3, h4, h5⟩
theorem FnExactPartOk : laws_FnExactPartOk.Pure := by
  rintro n l r ⟨h1, ⟨h2, _⟩, h3, h4⟩
  obtain ⟨k, hk⟩ : ∃ k : Nat, 6000000 < k := ⟨6000001, by omega⟩
  refine ⟨k, ?_⟩
  unfold laws_FnExactPartOk.f
  obtain ⟨q, e, _, hq⟩ := szPart_ex n l r ⟨h1, h2, h3, fun y hy => (h4 y hy).2⟩ 1048576 (by omega) (by omega) k (by omega)
  rw [e, Option.bind_some]
  by_cases h : q < 0
  · rw [if_pos h]
  have hp := hq (by omega)
  have hr : ∀ x ∈ r.map toRefV, x.f1.size ≤ 1048576 := fun x hx => by
    obtain ⟨y, hy, rfl⟩ := List.mem_map.1 hx
    exact hp.2.2.2 y hy
  have e1 := toPart_eq n l r hp k (by omega)
  have e2 := specPartOk_eq n (l.map toInsV) (r.map toRefV) hp.1 (by simpa using hp.2.1) (by simpa using hp.2.2.1) hr k (by omega)
  have e3 := implPartOk_eq n (l.map toInsV) (r.map toRefV) hp.1 (by simpa using hp.2.1) (by simpa using hp.2.2.1) hr k (by omega)
  have e4 := eqPart_same n (l.map toInsV) (r.map toRefV) (by simpa using hp.2.1) (by simpa using hp.2.2.1) k (by omega)
  simp only [e1, e2, e3, e4, Option.bind_some, if_neg h, if_true, bne_self_eq_false, Bool.false_eq_true, if_false]
end Go.Proofs.Ytddncenhddiemaa.Pure
