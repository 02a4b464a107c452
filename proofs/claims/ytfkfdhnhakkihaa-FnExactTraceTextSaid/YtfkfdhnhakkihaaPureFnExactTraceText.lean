/- For all traces, the program's TraceText returns what the reference's TraceText returns, and keeps its argument: no conditions. -/
import Derived.Test.YtfkfdhnhakkihaaPFnExactTraceTextx3
namespace Go.Proofs.Ytfkfdhnhakkihaa.Pure
open Go.RowKit Go.Proofs.Ytfkfdhnhakkihaa.PFnExactTraceText Go.Proofs.YtfkfdhnhakkihaaW.PrintWords Go.Proofs.YtfkfdhnhakkihaaW.PrintLast
set_option linter.unusedVariables false
set_option linter.unusedSimpArgs false

theorem wrap_small {x : Int} (h0 : -9223372036854775808 ≤ x) (h : x ≤ 9223372036854775807) : wrap64 x = x := by
  unfold wrap64; omega
theorem wrap_succ {i : Nat} (h : i < 4611686018427387904) : wrap64 ((i : Int) + 1) = ((i + 1 : Nat) : Int) := by
  unfold wrap64; omega
theorem rd_nat (l : List Int) (i : Nat) (h : i < l.length) : rd l (i : Int) = l[i] := by
  unfold rd; simp [List.getD, h]
theorem rd_mem (l : List Int) (i : Nat) (h : i < l.length) : rd l (i : Int) ∈ l := by
  rw [rd_nat l i h]; exact List.getElem_mem h
/-- A loop whose state is known ahead of each round. -/
theorem for_st {σ ρ : Type} (n : Nat) (L : Nat → Nat → σ → Option ρ) (st : Nat → σ) (r : ρ) (hs : ∀ k i, i < n → L (k + 1) i (st i) = L k (i + 1) (st (i + 1))) (he : ∀ k, L (k + 1) n (st n) = some r) :
    ∀ (k i : Nat), i ≤ n → n < i + k → L k i (st i) = some r
  | 0, i, hi, hk => by omega
  | k + 1, i, hi, hk => by
    by_cases h : i < n
    · rw [hs k i h]; exact for_st n L st r hs he k (i + 1) (by omega) (by omega)
    · have : i = n := by omega
      subst this; exact he k
/-- A loop that ends at the first place where p holds. -/
theorem for_find {ρ : Type} (n : Nat) (L : Nat → Nat → Option ρ) (p : Nat → Prop) (b : Nat → ρ) (r : ρ) (hs : ∀ k i, i < n → ¬ p i → L (k + 1) i = L k (i + 1)) (hb : ∀ k i, i < n → p i → L (k + 1) i = some (b i)) (he : ∀ k, L (k + 1) n = some r) :
    ∀ (k i : Nat), i ≤ n → n < i + k → (∃ j, i ≤ j ∧ j < n ∧ p j ∧ (∀ m, i ≤ m → m < j → ¬ p m) ∧ L k i = some (b j)) ∨ (∀ j, i ≤ j → j < n → ¬ p j) ∧ L k i = some r
  | 0, i, hi, hk => by omega
  | k + 1, i, hi, hk => by
    by_cases h : i < n
    · by_cases hp : p i
      · exact .inl ⟨i, Nat.le_refl _, h, hp, fun m h1 h2 => by omega, hb k i h hp⟩
      · rw [hs k i h hp]
        rcases for_find n L p b r hs hb he k (i + 1) (by omega) (by omega) with ⟨j, h1, h2, h3, h4, h5⟩ | ⟨h1, h2⟩
        · refine .inl ⟨j, by omega, h2, h3, fun m hm1 hm2 => ?_, h5⟩
          by_cases e : m = i
          · subst e; exact hp
          · exact h4 m (by omega) hm2
        · refine .inr ⟨fun j hj1 hj2 => ?_, h2⟩
          by_cases e : j = i
          · subst e; exact hp
          · exact h1 j (by omega) hj2
    · have : i = n := by omega
      subst this; exact .inr ⟨fun j h1 h2 => by omega, he k⟩
/-- The same for a Bool: do all places pass? -/
theorem for_all {n : Nat} {L : Nat → Nat → Option Bool} (p : Nat → Prop) (hs : ∀ k i, i < n → p i → L (k + 1) i = L k (i + 1)) (hb : ∀ k i, i < n → ¬ p i → L (k + 1) i = some false) (c : Bool) (he : ∀ k, L (k + 1) n = some c) {q : Bool}
    (hq : q = true ↔ (∀ j, j < n → p j) ∧ c = true) (k : Nat) (hk : n < k) : L k 0 = some q := by
  rcases for_find n L (fun i => ¬ p i) (fun _ => false) c (fun k i h hp => hs k i h (Classical.not_not.1 hp)) (fun k i h hp => hb k i h hp) he k 0 (Nat.zero_le _) (by omega) with ⟨j, _, h2, h3, _, h5⟩ | ⟨h1, h2⟩
  · rw [h5]; congr 1; symm
    rw [Bool.eq_false_iff]; intro hh; exact h3 ((hq.1 hh).1 j h2)
  · rw [h2]; congr 1
    have : ∀ j, j < n → p j := fun j hj => Classical.not_not.1 (h1 j (Nat.zero_le _) hj)
    rw [Bool.eq_iff_iff, hq]; exact ⟨fun h => ⟨this, h⟩, fun h => h.2⟩
/-- What is written, place by place. -/
theorem set_step {α : Type} (a b : List α) (i : Nat) (hi : i < a.length) (hb : b.length = a.length) : (a.take i ++ b.drop i).set i (a[i]'hi) = a.take (i + 1) ++ b.drop (i + 1) := by
  rw [List.set_append_right _ _ (by simp; omega), List.length_take, Nat.min_eq_left (by omega), Nat.sub_self, List.take_succ_eq_append_getElem hi, List.append_assoc]
  congr 1
  rw [List.drop_eq_getElem_cons (by omega)]
  rfl
theorem snoc_step {α : Type} (a : List α) (i : Nat) (hi : i < a.length) : a.take i ++ [a[i]'hi] = a.take (i + 1) := by
  rw [List.take_succ_eq_append_getElem hi]
theorem eq_iff_all (a b : List Int) (h : a.length = b.length) : a = b ↔ ∀ j, j < a.length → rd a (j : Int) = rd b (j : Int) := by
  constructor
  · rintro rfl j _; rfl
  · intro hh; refine List.ext_getElem h (fun j h1 h2 => ?_)
    have := hh j h1
    rwa [rd_nat a j h1, rd_nat b j h2] at this
/-- What marks hold: s, s + 1, .. -/
def iota (s : Int) (n : Nat) : List Int := (List.range n).map fun (i : Nat) => s + (i : Int)
theorem iota_length (s : Int) (n : Nat) : (iota s n).length = n := by simp [iota]
theorem iota_get (s : Int) (n i : Nat) (h : i < n) : (iota s n)[i]'(by rw [iota_length]; exact h) = s + i := by simp [iota]
/-- The same as bytes. -/
def iota8 (s : Int) (n : Nat) : List Int := (List.range n).map fun (i : Nat) => (s + (i : Int)) % 256
theorem iota8_length (s : Int) (n : Nat) : (iota8 s n).length = n := by simp [iota8]
theorem iota8_get (s : Int) (n i : Nat) (h : i < n) : (iota8 s n)[i]'(by rw [iota8_length]; exact h) = (s + i) % 256 := by simp [iota8]
theorem wraps_i64 (n : Int) (h0 : 0 ≤ n) (h1 : n < 2 ^ 62) : IntKind.i64.wrap n = n := by rw [IntKind.wrap_i64]; omega
theorem and255 (x : Int) (h0 : 0 ≤ x) (h : x ≤ 65535) : Go.bits .and .i64 x 255 = x % 256 := bits_mask .i64 62 (by decide) wraps_i64 8 (by decide) x h0 (by omega)
/-- Does a search find something. -/
theorem idx_any {n : Nat} (L : Nat → Nat → Option Int) (q : Nat → Bool) (hs : ∀ k i, i < n → q i = false → L (k + 1) i = L k (i + 1)) (hb : ∀ k i, i < n → q i = true → L (k + 1) i = some (i : Int)) (he : ∀ k, L (k + 1) n = some (-1)) (r : Bool)
    (hr : r = true ↔ ∃ j, j < n ∧ q j = true) (k : Nat) (hk : n < k) : ∃ v, L k 0 = some v ∧ decide (v ≥ 0) = r := by
  rcases for_find n L (fun i => q i = true) (fun i => (i : Int)) (-1) (fun k i h hp => hs k i h (by simpa using hp)) hb he k 0 (Nat.zero_le _) (by omega) with ⟨j, _, h2, h3, _, h5⟩ | ⟨h1, h2⟩
  · refine ⟨_, h5, ?_⟩
    rw [decide_eq_true (by omega : (j : Int) ≥ 0)]; exact (hr.2 ⟨j, h2, h3⟩).symm
  · refine ⟨_, h2, ?_⟩
    rw [decide_eq_false (by omega : ¬ (-1 : Int) ≥ 0)]; symm; rw [Bool.eq_false_iff]; intro hh
    obtain ⟨j, hj, hq⟩ := hr.1 hh
    exact h1 j (Nat.zero_le _) hj hq
/-- A number in decimal digits, of at most f of them. -/
def dgF : Nat → Nat → ByteArray
  | 0, _ => ⟨#[]⟩
  | f + 1, n => if n < 10 then ⟨#[UInt8.ofNat (48 + n)]⟩ else dgF f (n / 10) ++ ⟨#[UInt8.ofNat (48 + n % 10)]⟩
def dg (n : Nat) : ByteArray := dgF 20 n
theorem dgF_size : ∀ f n, (dgF f n).size ≤ f
  | 0, _ => Nat.le_refl _
  | f + 1, n => by
    unfold dgF
    by_cases h : n < 10
    · rw [if_pos h]; show 1 ≤ f + 1; omega
    · rw [if_neg h, ByteArray.size_append]; have := dgF_size f (n / 10); show _ + 1 ≤ _; omega
theorem enc_digit (d : Nat) (h : d < 10) : Go.Utf8.encode (wrap32 (wrap64 (48 + (d : Int)))) = ⟨#[UInt8.ofNat (48 + d)]⟩ := by
  have e : wrap32 (wrap64 (48 + (d : Int))) = 48 + (d : Int) := by unfold wrap32 wrap64; omega
  rw [e]
  have hc : d = 0 ∨ d = 1 ∨ d = 2 ∨ d = 3 ∨ d = 4 ∨ d = 5 ∨ d = 6 ∨ d = 7 ∨ d = 8 ∨ d = 9 := by omega
  rcases hc with rfl | rfl | rfl | rfl | rfl | rfl | rfl | rfl | rfl | rfl <;> simp [Go.Utf8.encode, Go.Utf8.valid]
theorem digits_f : ∀ (f : Nat) (n : Nat), f ≤ 20 → n < 10 ^ f → n < 9223372036854775808 → 0 < f → ∀ k, 2 * f < k → impl_digits.f k (n : Int) = some (dgF f n)
  | 0, n, _, _, _, h, _, _ => by omega
  | f + 1, n, hf, hn, hb, _, k, hk => by
    obtain ⟨k, rfl⟩ : ∃ m, k = m + 2 := ⟨k - 2, by omega⟩
    simp only [impl_digits.f, impl_digits.j0, dgF]
    rw [if_neg (by omega), if_neg (by simp), if_neg (by omega)]
    by_cases h : n < 10
    · rw [if_pos (by omega), if_pos h, enc_digit n h]
    · have hd : Int.tdiv (n : Int) 10 = ((n / 10 : Nat) : Int) := by rw [Int.tdiv_eq_ediv_of_nonneg (by omega)]; omega
      have hm : Int.tmod (n : Int) 10 = ((n % 10 : Nat) : Int) := by rw [Int.tmod_eq_emod_of_nonneg (by omega)]; omega
      have hp : n / 10 < 10 ^ f := by rw [Nat.pow_succ] at hn; omega
      have hf0 : 0 < f := by
        rcases Nat.eq_zero_or_pos f with e | e
        · subst e; simp at hp; omega
        · exact e
      rw [if_neg (by omega), if_neg h, hd, hm, wrap_small (by omega) (by omega), digits_f f (n / 10) (by omega) hp (by omega) hf0 k (by omega), Option.bind_some, enc_digit (n % 10) (by omega), if_pos (by have := dgF_size f (n / 10); show _ + 1 ≤ _; omega)]
theorem digits_eq (n : Int) (h0 : 0 ≤ n) (hb : n < 9223372036854775808) (k : Nat) (hk : 40 < k) : impl_digits.f k n = some (dg n.toNat) := by
  have h := digits_f 20 n.toNat (by omega) (by omega) (by omega) (by omega) k (by omega)
  rwa [Int.toNat_of_nonneg h0] at h
theorem dg_size (n : Nat) : (dg n).size ≤ 20 := dgF_size 20 n
theorem str_digit (d : Nat) (h : d < 10) : strOfNums [wrap64 (48 + (d : Int)) % 256] = ⟨#[UInt8.ofNat (48 + d)]⟩ := by
  have e : wrap64 (48 + (d : Int)) % 256 = 48 + (d : Int) := by unfold wrap64; omega
  rw [e]
  have hc : d = 0 ∨ d = 1 ∨ d = 2 ∨ d = 3 ∨ d = 4 ∨ d = 5 ∨ d = 6 ∨ d = 7 ∨ d = 8 ∨ d = 9 := by omega
  rcases hc with rfl | rfl | rfl | rfl | rfl | rfl | rfl | rfl | rfl | rfl <;> rfl
theorem l16Digits_l : ∀ (f : Nat) (n : Nat) (acc : ByteArray), f ≤ 20 → 0 < n → n < 10 ^ f → n < 9223372036854775808 → acc.size ≤ 1000 - 20 + f * 0 + (20 - f) → ∀ k, f < k → spec_l16Digits.l0 k (n : Int) acc = some (dgF f n ++ acc)
  | 0, n, _, _, h0, hn, _, _, _, _ => by simp at hn; omega
  | f + 1, n, acc, hf, h0, hn, hb, ha, k, hk => by
    obtain ⟨k, rfl⟩ : ∃ m, k = m + 1 := ⟨k - 1, by omega⟩
    have hd : Int.tdiv (n : Int) 10 = ((n / 10 : Nat) : Int) := by rw [Int.tdiv_eq_ediv_of_nonneg (by omega)]; omega
    have hm : Int.tmod (n : Int) 10 = ((n % 10 : Nat) : Int) := by rw [Int.tmod_eq_emod_of_nonneg (by omega)]; omega
    simp only [spec_l16Digits.l0, dgF]
    rw [if_pos (by omega), hd, hm, Option.bind_some, str_digit (n % 10) (by omega), if_pos (by show 1 + _ ≤ _; omega), wrap_small (by omega) (by omega)]
    by_cases h : n < 10
    · rw [if_pos h, show n / 10 = 0 by omega, show n % 10 = n by omega]
      obtain ⟨k, rfl⟩ : ∃ m, k = m + 1 := ⟨k - 1, by omega⟩
      simp only [spec_l16Digits.l0]
      rw [if_neg (by omega)]
    · have hp : n / 10 < 10 ^ f := by rw [Nat.pow_succ] at hn; omega
      rw [if_neg h, l16Digits_l f (n / 10) _ (by omega) (by omega) hp (by omega) (by rw [ByteArray.size_append]; show 1 + _ ≤ _; omega) k (by omega), ByteArray.append_assoc]
theorem l16Digits_eq (n : Int) (h0 : 0 ≤ n) (hb : n < 9223372036854775808) (k : Nat) (hk : 20 < k) : spec_l16Digits.f k n = some (dg n.toNat) := by
  unfold spec_l16Digits.f
  by_cases h : n ≤ 0
  · have : n = 0 := by omega
    subst this; rw [if_pos h]; rfl
  · rw [if_neg h]
    have h2 := l16Digits_l 20 n.toNat ⟨#[]⟩ (by omega) (by omega) (by omega) (by omega) (by show 0 ≤ _; omega) k hk
    rw [Int.toNat_of_nonneg h0] at h2
    have e : dgF 20 n.toNat ++ (⟨#[]⟩ : ByteArray) = dgF 20 n.toNat := ByteArray.append_empty
    rw [h2, e]; rfl
/-- A number in digits, or the sign for none. -/
def signText (n : Int) : ByteArray := if n < 0 then ⟨#[45]⟩ else dg n.toNat
theorem signText_size (n : Int) : (signText n).size ≤ 20 := by
  unfold signText
  by_cases h : n < 0
  · rw [if_pos h]; show 1 ≤ 20; omega
  · rw [if_neg h]; exact dg_size _
theorem l18Num_eq (n : Int) (hb : n < 9223372036854775808) (k : Nat) (hk : 20 < k) : spec_l18Num.f k n = some (signText n) := by
  unfold spec_l18Num.f signText
  by_cases h : n < 0
  · rw [if_pos h, if_pos h]
  · rw [if_neg h, if_neg h, l16Digits_eq n (by omega) hb k hk]; rfl
theorem i64_lt {n : Int} (h : (Lit.int .i64 n).wf = true) : -9223372036854775808 ≤ n ∧ n < 9223372036854775808 := by
  simp only [Lit.wf, Bool.and_eq_true, decide_eq_true_eq] at h
  have e1 : IntKind.i64.min = -9223372036854775808 := by decide
  have e2 : IntKind.i64.max = 9223372036854775807 := by decide
  omega
theorem signs_eq (l : List Int) (hl : l.length ≤ 2097152) (hx : ∀ x ∈ l, x < 9223372036854775808) (k : Nat) (hk : l.length + 60 < k) : impl_signs.f k l = some (l.map signText) := by
  unfold impl_signs.f
  have h := for_st l.length (fun k' i (s : List ByteArray) => impl_signs.l0 (k' + 50) s l (l.length : Int) (i : Int)) (fun i => (l.map signText).take i) (l.map signText) ?_ ?_ (k - 50) 0 (Nat.zero_le _) (by omega)
  · rw [show k - 50 + 50 = k by omega] at h; simpa using h
  · intro k' i hi
    have hb := hx _ (rd_mem l i hi)
    have e : (l.map signText).take (i + 1) = (l.map signText).take i ++ [signText (rd l (i : Int))] := by
      rw [List.take_succ_eq_append_getElem (by simpa using hi), rd_nat l i hi]; simp
    rw [show k' + 1 + 50 = (k' + 50) + 1 by omega, impl_signs.l0, if_pos (by omega), if_pos (by omega), if_pos (by omega), wrap_succ (by omega), e]
    by_cases c : rd l (i : Int) ≥ 0
    · rw [if_pos c, digits_eq _ c hb _ (by omega), Option.bind_some, if_pos (by rw [List.length_take]; simp; omega)]
      unfold signText; rw [if_neg (by omega)]
    · rw [if_neg c, if_pos (by rw [List.length_take]; simp; omega)]
      unfold signText; rw [if_pos (by omega)]
  · intro k'
    rw [show k' + 1 + 50 = (k' + 50) + 1 by omega, impl_signs.l0, if_neg (by omega)]
    rw [List.take_of_length_le (by simp)]
theorem joinB_one (x s : ByteArray) : joinB [x] s = x := by
  apply ByteArray.ext
  simp [joinB, Lib.join_one]
theorem joinB_more (x y s : ByteArray) (r : List ByteArray) : joinB (x :: y :: r) s = (x ++ s) ++ joinB (y :: r) s := by
  apply ByteArray.ext
  simp [joinB, Lib.join, List.intercalate, ByteArray.data_append]
theorem joinSign_one (a : Int) (s : ByteArray) (h : s.size = 1) (n : Nat) (hn : n = 1) : (joinB [signText a] s).size ≤ 21 := by rw [joinB_one]; have := signText_size a; omega
theorem joinSign_size (s : ByteArray) (h : s.size = 1) : ∀ l : List Int, (joinB (l.map signText) s).size ≤ 21 * l.length
  | [] => by show (joinB [] s).size ≤ 0; exact Nat.le_refl 0
  | [a] => by show (joinB [signText a] s).size ≤ 21; rw [joinB_one]; have := signText_size a; omega
  | a :: b :: l => by
    have h1 := joinSign_size s h (b :: l); have h2 := signText_size a
    rw [List.map_cons, List.map_cons] at *; rw [joinB_more, ByteArray.size_append, ByteArray.size_append]
    simp only [List.length_cons] at h1 ⊢
    omega
theorem joinSigns_eq (l : List Int) (s : ByteArray) (h : s.size = 1) (hl : l.length ≤ 2097152) : strings_Join.f (l.map signText) s = some (joinB (l.map signText) s) := by
  unfold strings_Join.f
  have := joinSign_size s h l
  rw [if_pos ⟨by rw [List.length_map]; omega, by omega⟩]
theorem szEventS_ex (l : List S128) (hm : l.length ≤ maxLen) : ∃ r, laws_szEventS.f l 1048576 = some r ∧ (0 ≤ r → l.length ≤ 1048576) := by
  unfold laws_szEventS.f
  have e : wrap64 (1048576 - (l.length : Int)) = 1048576 - (l.length : Int) := by
    unfold maxLen at hm; unfold wrap64; omega
  rw [e]
  by_cases h : (1048576 : Int) - (l.length : Int) < 0
  · rw [if_pos h]; exact ⟨_, rfl, fun h => by omega⟩
  · rw [if_neg h]; exact ⟨_, rfl, fun _ => by omega⟩
def toEventV (x : S128) : S113 := ⟨x.f0, x.f1, x.f2, x.f3, x.f4⟩
theorem rdLEvent (l : List S128) (i : Nat) (h : i < l.length) : rd_T128 l (i : Int) = l[i] := by
  unfold rd_T128; simp [List.getD, h]
theorem toEventS_eq (l : List S128) (hl : l.length ≤ 1048576) (k : Nat) (hk : 2200000 < k) : laws_toEventS.f k l = some (l.map toEventV) := by
  unfold laws_toEventS.f
  rw [if_pos (by omega), if_pos (by simp; omega)]
  have h := for_st l.length (fun k' i (s : List S113) => laws_toEventS.l0 k' l s (i : Int)) (fun i => (l.map toEventV).take i ++ (List.replicate l.length z113).drop i) (l.map toEventV) ?_ ?_ k 0 (Nat.zero_le _) (by omega)
  · simpa using h
  · intro k' i hi
    rw [laws_toEventS.l0]
    rw [if_pos (by omega), if_pos (by omega), rdLEvent l i hi, laws_toEvent.f, Option.bind_some, if_pos (by simp; omega), wrap_succ (by omega)]
    simp only [Int.toNat_natCast]
    have e : (⟨(l[i]).f0, (l[i]).f1, (l[i]).f2, (l[i]).f3, (l[i]).f4⟩ : S113) = (l.map toEventV)[i]'(by simpa using hi) := by simp [toEventV]
    rw [e, set_step _ _ _ (by simpa using hi) (by simp)]
  · intro k'
    rw [laws_toEventS.l0]
    rw [if_neg (by omega)]; simp [List.take_of_length_le]
theorem rdEvent (l : List S113) (i : Nat) (h : i < l.length) : rd_T113 l (i : Int) = l[i] := by
  unfold rd_T113; simp [List.getD, h]
theorem eqEvent_same (a b c d e : Int) : laws_eqEvent.f a b c d e a b c d e = some true := by
  unfold laws_eqEvent.f; simp
theorem eqEventS_same (l : List S113) (hl : l.length ≤ 1048576) (k : Nat) (hk : l.length < k) : laws_eqEventS.f k l l = some true := by
  unfold laws_eqEventS.f
  rw [if_pos rfl]
  have h := for_st l.length (fun k' i (_ : Unit) => laws_eqEventS.l0 k' l l (i : Int)) (fun _ => ()) true ?_ ?_ k 0 (Nat.zero_le _) (by omega)
  · exact h
  · intro k' i hi
    rw [laws_eqEventS.l0]
    rw [if_pos (by omega), if_pos (by omega), if_pos (by omega), rdEvent l i hi, eqEvent_same, Option.bind_some, if_pos rfl, wrap_succ (by omega)]
  · intro k'
    rw [laws_eqEventS.l0]
    rw [if_neg (by omega)]
def eventT (a b c d e : Int) : ByteArray := joinB ([a, b, c, d, e].map signText) (⟨#[32]⟩ : ByteArray)
theorem eventT_size (a b c d e : Int) : (eventT a b c d e).size ≤ 105 := joinSign_size _ rfl [a, b, c, d, e]
theorem implEventText_eq (a b c d e : Int) (h : ∀ x ∈ [a, b, c, d, e], x < 9223372036854775808) (k : Nat) (hk : 100 < k) : impl_EventText.f k a b c d e = some (eventT a b c d e) := by
  unfold impl_EventText.f
  rw [signs_eq [a, b, c, d, e] (by simp) h k (by simp; omega), Option.bind_some, joinSigns_eq _ _ rfl (by simp)]; rfl
theorem specEventText_eq (a b c d e : Int) (h : ∀ x ∈ [a, b, c, d, e], x < 9223372036854775808) (k : Nat) (hk : 100 < k) : spec_EventText.f k a b c d e = some (eventT a b c d e) := by
  unfold spec_EventText.f eventT
  have sa := signText_size a; have sb := signText_size b; have sc := signText_size c; have sd := signText_size d; have se := signText_size e
  have s1 : (⟨#[32]⟩ : ByteArray).size = 1 := rfl
  have n : ∀ x ∈ [a, b, c, d, e], spec_l18Num.f k x = some (signText x) := fun x hx => l18Num_eq x (h x hx) k (by omega)
  simp only [List.map_cons, List.map_nil, joinB_more, joinB_one]
  rw [n a (by simp), Option.bind_some, if_pos (by omega), n b (by simp), Option.bind_some, if_pos (by simp only [ByteArray.size_append]; omega), if_pos (by simp only [ByteArray.size_append]; omega), n c (by simp), Option.bind_some, if_pos (by simp only [ByteArray.size_append]; omega), if_pos (by simp only [ByteArray.size_append]; omega),
    n d (by simp), Option.bind_some, if_pos (by simp only [ByteArray.size_append]; omega), if_pos (by simp only [ByteArray.size_append]; omega), n e (by simp), Option.bind_some, if_pos (by simp only [ByteArray.size_append]; omega)]
  simp only [ByteArray.append_assoc]
def evT (x : S113) : ByteArray := eventT x.f0 x.f1 x.f2 x.f3 x.f4
def evOk (x : S113) : Prop := ∀ y ∈ [x.f0, x.f1, x.f2, x.f3, x.f4], y < 9223372036854775808
/-- A trace's text, up to an event. -/
def traceT (l : List S113) : Nat → ByteArray
  | 0 => ⟨#[]⟩
  | i + 1 => traceT l i ++ (evT (rd_T113 l (i : Int)) ++ (⟨#[10]⟩ : ByteArray))
theorem traceT_size (l : List S113) : ∀ i, (traceT l i).size ≤ 106 * i
  | 0 => Nat.le_refl _
  | i + 1 => by
    have h := traceT_size l i
    have h1 : (evT (rd_T113 l (i : Int))).size ≤ 105 := eventT_size _ _ _ _ _
    unfold traceT; rw [ByteArray.size_append, ByteArray.size_append]; show _ + (_ + 1) ≤ _; omega
def traceText (l : List S113) : ByteArray := if l.length ≤ 60 then traceT l l.length else ⟨#[]⟩
theorem implTraceText_eq (l : List S113) (hx : ∀ x ∈ l, evOk x) (k : Nat) (hk : 1000 < k) : impl_TraceText.f k l = some (traceText l) := by
  unfold impl_TraceText.f traceText
  by_cases h : l.length ≤ 60
  · rw [if_neg (by omega), if_pos h]
    have hh := for_st l.length (fun k' i (t : ByteArray) => impl_TraceText.l0 (k' + 200) t l (l.length : Int) (i : Int)) (fun i => traceT l i) (traceT l l.length) ?_ ?_ (k - 200) 0 (Nat.zero_le _) (by omega)
    · rw [show k - 200 + 200 = k by omega] at hh; exact hh
    · intro k' i hi
      have hs := traceT_size l i
      have h1 : (evT (rd_T113 l (i : Int))).size ≤ 105 := eventT_size _ _ _ _ _
      have ho : evOk (rd_T113 l (i : Int)) := by rw [rdEvent l i hi]; exact hx _ (List.getElem_mem hi)
      have he := implEventText_eq _ _ _ _ _ ho (k' + 200) (by omega)
      have he' : impl_EventText.f (k' + 200) (rd_T113 l (i : Int)).f0 (rd_T113 l (i : Int)).f1 (rd_T113 l (i : Int)).f2 (rd_T113 l (i : Int)).f3 (rd_T113 l (i : Int)).f4 = some (evT (rd_T113 l (i : Int))) := he
      rw [show k' + 1 + 200 = (k' + 200) + 1 by omega, impl_TraceText.l0, if_pos (by omega), if_pos (by omega), if_pos (by omega), he', Option.bind_some, if_pos (by omega), if_pos (by rw [ByteArray.size_append]; show _ + (_ + 1) ≤ _; omega), wrap_succ (by omega)]
      rfl
    · intro k'
      rw [show k' + 1 + 200 = (k' + 200) + 1 by omega, impl_TraceText.l0, if_neg (by omega)]
  · rw [if_pos (by omega), if_neg h]
theorem specTraceText_eq (l : List S113) (hx : ∀ x ∈ l, evOk x) (k : Nat) (hk : 1000 < k) : spec_TraceText.f k l = some (traceText l) := by
  unfold spec_TraceText.f traceText
  by_cases h : l.length ≤ 60
  · rw [if_pos h]
    have hh := for_st l.length (fun k' i (t : ByteArray) => spec_TraceText.l0 (k' + 200) l t (i : Int)) (fun i => traceT l i) (traceT l l.length) ?_ ?_ (k - 200) 0 (Nat.zero_le _) (by omega)
    · rw [show k - 200 + 200 = k by omega] at hh; exact hh
    · intro k' i hi
      have hs := traceT_size l i
      have h1 : (evT (rd_T113 l (i : Int))).size ≤ 105 := eventT_size _ _ _ _ _
      have ho : evOk (rd_T113 l (i : Int)) := by rw [rdEvent l i hi]; exact hx _ (List.getElem_mem hi)
      have he := specEventText_eq _ _ _ _ _ ho (k' + 200) (by omega)
      have he' : spec_EventText.f (k' + 200) (rd_T113 l (i : Int)).f0 (rd_T113 l (i : Int)).f1 (rd_T113 l (i : Int)).f2 (rd_T113 l (i : Int)).f3 (rd_T113 l (i : Int)).f4 = some (evT (rd_T113 l (i : Int))) := he
      rw [show k' + 1 + 200 = (k' + 200) + 1 by omega, spec_TraceText.l0, if_pos (by omega), if_pos (by omega), if_pos (by omega), he', Option.bind_some, if_pos (by omega), if_pos (by rw [ByteArray.size_append]; omega), wrap_succ (by omega), traceT, ByteArray.append_assoc]
    · intro k'
      rw [show k' + 1 + 200 = (k' + 200) + 1 by omega, spec_TraceText.l0, if_neg (by omega)]
  · rw [if_neg h]
    obtain ⟨k, rfl⟩ : ∃ m, k = m + 1 := ⟨k - 1, by omega⟩
    rw [spec_TraceText.l0]
    rw [if_pos (by omega), if_neg (by omega)]
theorem FnExactTraceText : laws_FnExactTraceText.Pure := by
  rintro l ⟨hm, hw⟩
  obtain ⟨k, hk⟩ : ∃ k : Nat, 4000000 < k := ⟨4000001, by omega⟩
  refine ⟨k, ?_⟩
  unfold laws_FnExactTraceText.f
  obtain ⟨r, e, hr⟩ := szEventS_ex l hm
  rw [e, Option.bind_some]
  by_cases h : r < 0
  · rw [if_pos h]
  have hl := hr (by omega)
  have hx : ∀ x ∈ l.map toEventV, evOk x := by
    intro x hx
    obtain ⟨y, hy, rfl⟩ := List.mem_map.1 hx
    obtain ⟨w0, w1, w2, w3, w4⟩ := hw y hy
    have h0 := (i64_lt w0).2; have h1 := (i64_lt w1).2; have h2 := (i64_lt w2).2; have h3 := (i64_lt w3).2; have h4 := (i64_lt w4).2
    intro z hz
    simp only [toEventV, List.mem_cons, List.not_mem_nil, or_false] at hz
    rcases hz with rfl | rfl | rfl | rfl | rfl <;> assumption
  have e1 := toEventS_eq l hl k (by omega)
  have e2 := specTraceText_eq _ hx k (by omega)
  have e3 := implTraceText_eq _ hx k (by omega)
  have e4 := eqEventS_same (l.map toEventV) (by simpa using hl) k (by simp; omega)
  simp only [e1, e2, e3, e4, Option.bind_some, if_neg h, if_true]
end Go.Proofs.Ytfkfdhnhakkihaa.Pure
