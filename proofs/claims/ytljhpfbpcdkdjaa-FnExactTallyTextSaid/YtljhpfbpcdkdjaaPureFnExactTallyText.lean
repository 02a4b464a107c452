/- For all tallies, the program's TallyText returns what the reference's TallyText returns: no conditions. -/
import Derived.Test.YtljhpfbpcdkdjaaPFnExactTallyTextx2
namespace Go.Proofs.Ytljhpfbpcdkdjaa.Pure
open Go.RowKit Go.Proofs.Ytljhpfbpcdkdjaa.PFnExactTallyText Go.Proofs.YtljhpfbpcdkdjaaW.PrintWords Go.Proofs.YtljhpfbpcdkdjaaW.PrintLast
set_option linter.unusedVariables false
set_option linter.unusedSimpArgs false

theorem wrap_small {x : Int} (h0 : -9223372036854775808 ≤ x) (h : x ≤ 9223372036854775807) : wrap64 x = x := by
  unfold wrap64; omega
theorem wrap_succ {i : Nat} (h : i < 4611686018427387904) : wrap64 ((i : Int) + 1) = ((i + 1 : Nat) : Int) := by
  unfold wrap64; omega
theorem rd_nat (l : List Int) (i : Nat) (h : i < l.length) : rd l (i : Int) = l[i] := by
  unfold rd; simp [List.getD, h]
theorem rd_mem (l : List Int) (i : Nat) (h : i < l.length) : rd l (i : Int) ∈ l := by
  rw [rd_nat l i h]; exact List.getElem_mem h
/-- A loop whose state is known ahead of each round. -/
theorem for_st {σ ρ : Type} (n : Nat) (L : Nat → Nat → σ → Option ρ) (st : Nat → σ) (r : ρ) (hs : ∀ k i, i < n → L (k + 1) i (st i) = L k (i + 1) (st (i + 1))) (he : ∀ k, L (k + 1) n (st n) = some r) :
    ∀ (k i : Nat), i ≤ n → n < i + k → L k i (st i) = some r
  | 0, i, hi, hk => by omega
  | k + 1, i, hi, hk => by
    by_cases h : i < n
    · rw [hs k i h]; exact for_st n L st r hs he k (i + 1) (by omega) (by omega)
    · have : i = n := by omega
      subst this; exact he k
/-- A loop that ends at the first place where p holds. -/
theorem for_find {ρ : Type} (n : Nat) (L : Nat → Nat → Option ρ) (p : Nat → Prop) (b : Nat → ρ) (r : ρ) (hs : ∀ k i, i < n → ¬ p i → L (k + 1) i = L k (i + 1)) (hb : ∀ k i, i < n → p i → L (k + 1) i = some (b i)) (he : ∀ k, L (k + 1) n = some r) :
    ∀ (k i : Nat), i ≤ n → n < i + k → (∃ j, i ≤ j ∧ j < n ∧ p j ∧ (∀ m, i ≤ m → m < j → ¬ p m) ∧ L k i = some (b j)) ∨ (∀ j, i ≤ j → j < n → ¬ p j) ∧ L k i = some r
  | 0, i, hi, hk => by omega
  | k + 1, i, hi, hk => by
    by_cases h : i < n
    · by_cases hp : p i
      · exact .inl ⟨i, Nat.le_refl _, h, hp, fun m h1 h2 => by omega, hb k i h hp⟩
      · rw [hs k i h hp]
        rcases for_find n L p b r hs hb he k (i + 1) (by omega) (by omega) with ⟨j, h1, h2, h3, h4, h5⟩ | ⟨h1, h2⟩
        · refine .inl ⟨j, by omega, h2, h3, fun m hm1 hm2 => ?_, h5⟩
          by_cases e : m = i
          · subst e; exact hp
          · exact h4 m (by omega) hm2
        · refine .inr ⟨fun j hj1 hj2 => ?_, h2⟩
          by_cases e : j = i
          · subst e; exact hp
          · exact h1 j (by omega) hj2
    · have : i = n := by omega
      subst this; exact .inr ⟨fun j h1 h2 => by omega, he k⟩
/-- The same for a Bool: do all places pass? -/
theorem for_all {n : Nat} {L : Nat → Nat → Option Bool} (p : Nat → Prop) (hs : ∀ k i, i < n → p i → L (k + 1) i = L k (i + 1)) (hb : ∀ k i, i < n → ¬ p i → L (k + 1) i = some false) (c : Bool) (he : ∀ k, L (k + 1) n = some c) {q : Bool}
    (hq : q = true ↔ (∀ j, j < n → p j) ∧ c = true) (k : Nat) (hk : n < k) : L k 0 = some q := by
  rcases for_find n L (fun i => ¬ p i) (fun _ => false) c (fun k i h hp => hs k i h (Classical.not_not.1 hp)) (fun k i h hp => hb k i h hp) he k 0 (Nat.zero_le _) (by omega) with ⟨j, _, h2, h3, _, h5⟩ | ⟨h1, h2⟩
  · rw [h5]; congr 1; symm
    rw [Bool.eq_false_iff]; intro hh; exact h3 ((hq.1 hh).1 j h2)
  · rw [h2]; congr 1
    have : ∀ j, j < n → p j := fun j hj => Classical.not_not.1 (h1 j (Nat.zero_le _) hj)
    rw [Bool.eq_iff_iff, hq]; exact ⟨fun h => ⟨this, h⟩, fun h => h.2⟩
/-- What is written, place by place. -/
theorem set_step {α : Type} (a b : List α) (i : Nat) (hi : i < a.length) (hb : b.length = a.length) : (a.take i ++ b.drop i).set i (a[i]'hi) = a.take (i + 1) ++ b.drop (i + 1) := by
  rw [List.set_append_right _ _ (by simp; omega), List.length_take, Nat.min_eq_left (by omega), Nat.sub_self, List.take_succ_eq_append_getElem hi, List.append_assoc]
  congr 1
  rw [List.drop_eq_getElem_cons (by omega)]
  rfl
theorem snoc_step {α : Type} (a : List α) (i : Nat) (hi : i < a.length) : a.take i ++ [a[i]'hi] = a.take (i + 1) := by
  rw [List.take_succ_eq_append_getElem hi]
theorem eq_iff_all (a b : List Int) (h : a.length = b.length) : a = b ↔ ∀ j, j < a.length → rd a (j : Int) = rd b (j : Int) := by
  constructor
  · rintro rfl j _; rfl
  · intro hh; refine List.ext_getElem h (fun j h1 h2 => ?_)
    have := hh j h1
    rwa [rd_nat a j h1, rd_nat b j h2] at this
/-- What marks hold: s, s + 1, .. -/
def iota (s : Int) (n : Nat) : List Int := (List.range n).map fun (i : Nat) => s + (i : Int)
theorem iota_length (s : Int) (n : Nat) : (iota s n).length = n := by simp [iota]
theorem iota_get (s : Int) (n i : Nat) (h : i < n) : (iota s n)[i]'(by rw [iota_length]; exact h) = s + i := by simp [iota]
/-- The same as bytes. -/
def iota8 (s : Int) (n : Nat) : List Int := (List.range n).map fun (i : Nat) => (s + (i : Int)) % 256
theorem iota8_length (s : Int) (n : Nat) : (iota8 s n).length = n := by simp [iota8]
theorem iota8_get (s : Int) (n i : Nat) (h : i < n) : (iota8 s n)[i]'(by rw [iota8_length]; exact h) = (s + i) % 256 := by simp [iota8]
/-- A number in decimal digits, of at most f of them. -/
def dgF : Nat → Nat → ByteArray
  | 0, _ => ⟨#[]⟩
  | f + 1, n => if n < 10 then ⟨#[UInt8.ofNat (48 + n)]⟩ else dgF f (n / 10) ++ ⟨#[UInt8.ofNat (48 + n % 10)]⟩
def dg (n : Nat) : ByteArray := dgF 20 n
theorem dgF_size : ∀ f n, (dgF f n).size ≤ f
  | 0, _ => Nat.le_refl _
  | f + 1, n => by
    unfold dgF
    by_cases h : n < 10
    · rw [if_pos h]; show 1 ≤ f + 1; omega
    · rw [if_neg h, ByteArray.size_append]; have := dgF_size f (n / 10); show _ + 1 ≤ _; omega
theorem enc_digit (d : Nat) (h : d < 10) : Go.Utf8.encode (wrap32 (wrap64 (48 + (d : Int)))) = ⟨#[UInt8.ofNat (48 + d)]⟩ := by
  have e : wrap32 (wrap64 (48 + (d : Int))) = 48 + (d : Int) := by unfold wrap32 wrap64; omega
  rw [e]
  have hc : d = 0 ∨ d = 1 ∨ d = 2 ∨ d = 3 ∨ d = 4 ∨ d = 5 ∨ d = 6 ∨ d = 7 ∨ d = 8 ∨ d = 9 := by omega
  rcases hc with rfl | rfl | rfl | rfl | rfl | rfl | rfl | rfl | rfl | rfl <;> simp [Go.Utf8.encode, Go.Utf8.valid]
theorem digits_f : ∀ (f : Nat) (n : Nat), f ≤ 20 → n < 10 ^ f → n < 9223372036854775808 → 0 < f → ∀ k, 2 * f < k → impl_digits.f k (n : Int) = some (dgF f n)
  | 0, n, _, _, _, h, _, _ => by omega
  | f + 1, n, hf, hn, hb, _, k, hk => by
    obtain ⟨k, rfl⟩ : ∃ m, k = m + 2 := ⟨k - 2, by omega⟩
    simp only [impl_digits.f, impl_digits.j0, dgF]
    rw [if_neg (by omega), if_neg (by simp), if_neg (by omega)]
    by_cases h : n < 10
    · rw [if_pos (by omega), if_pos h, enc_digit n h]
    · have hd : Int.tdiv (n : Int) 10 = ((n / 10 : Nat) : Int) := by rw [Int.tdiv_eq_ediv_of_nonneg (by omega)]; omega
      have hm : Int.tmod (n : Int) 10 = ((n % 10 : Nat) : Int) := by rw [Int.tmod_eq_emod_of_nonneg (by omega)]; omega
      have hp : n / 10 < 10 ^ f := by rw [Nat.pow_succ] at hn; omega
      have hf0 : 0 < f := by
        rcases Nat.eq_zero_or_pos f with e | e
        · subst e; simp at hp; omega
        · exact e
      rw [if_neg (by omega), if_neg h, hd, hm, wrap_small (by omega) (by omega), digits_f f (n / 10) (by omega) hp (by omega) hf0 k (by omega), Option.bind_some, enc_digit (n % 10) (by omega), if_pos (by have := dgF_size f (n / 10); show _ + 1 ≤ _; omega)]
theorem digits_eq (n : Int) (h0 : 0 ≤ n) (hb : n < 9223372036854775808) (k : Nat) (hk : 40 < k) : impl_digits.f k n = some (dg n.toNat) := by
  have h := digits_f 20 n.toNat (by omega) (by omega) (by omega) (by omega) k (by omega)
  rwa [Int.toNat_of_nonneg h0] at h
theorem dg_size (n : Nat) : (dg n).size ≤ 20 := dgF_size 20 n
theorem str_digit (d : Nat) (h : d < 10) : strOfNums [wrap64 (48 + (d : Int)) % 256] = ⟨#[UInt8.ofNat (48 + d)]⟩ := by
  have e : wrap64 (48 + (d : Int)) % 256 = 48 + (d : Int) := by unfold wrap64; omega
  rw [e]
  have hc : d = 0 ∨ d = 1 ∨ d = 2 ∨ d = 3 ∨ d = 4 ∨ d = 5 ∨ d = 6 ∨ d = 7 ∨ d = 8 ∨ d = 9 := by omega
  rcases hc with rfl | rfl | rfl | rfl | rfl | rfl | rfl | rfl | rfl | rfl <;> rfl
theorem l16Digits_l : ∀ (f : Nat) (n : Nat) (acc : ByteArray), f ≤ 20 → 0 < n → n < 10 ^ f → n < 9223372036854775808 → acc.size ≤ 1000 - 20 + f * 0 + (20 - f) → ∀ k, f < k → spec_l16Digits.l0 k (n : Int) acc = some (dgF f n ++ acc)
  | 0, n, _, _, h0, hn, _, _, _, _ => by simp at hn; omega
  | f + 1, n, acc, hf, h0, hn, hb, ha, k, hk => by
    obtain ⟨k, rfl⟩ : ∃ m, k = m + 1 := ⟨k - 1, by omega⟩
    have hd : Int.tdiv (n : Int) 10 = ((n / 10 : Nat) : Int) := by rw [Int.tdiv_eq_ediv_of_nonneg (by omega)]; omega
    have hm : Int.tmod (n : Int) 10 = ((n % 10 : Nat) : Int) := by rw [Int.tmod_eq_emod_of_nonneg (by omega)]; omega
    simp only [spec_l16Digits.l0, dgF]
    rw [if_pos (by omega), hd, hm, Option.bind_some, str_digit (n % 10) (by omega), if_pos (by show 1 + _ ≤ _; omega), wrap_small (by omega) (by omega)]
    by_cases h : n < 10
    · rw [if_pos h, show n / 10 = 0 by omega, show n % 10 = n by omega]
      obtain ⟨k, rfl⟩ : ∃ m, k = m + 1 := ⟨k - 1, by omega⟩
      simp only [spec_l16Digits.l0]
      rw [if_neg (by omega)]
    · have hp : n / 10 < 10 ^ f := by rw [Nat.pow_succ] at hn; omega
      rw [if_neg h, l16Digits_l f (n / 10) _ (by omega) (by omega) hp (by omega) (by rw [ByteArray.size_append]; show 1 + _ ≤ _; omega) k (by omega), ByteArray.append_assoc]
theorem l16Digits_eq (n : Int) (h0 : 0 ≤ n) (hb : n < 9223372036854775808) (k : Nat) (hk : 20 < k) : spec_l16Digits.f k n = some (dg n.toNat) := by
  unfold spec_l16Digits.f
  by_cases h : n ≤ 0
  · have : n = 0 := by omega
    subst this; rw [if_pos h]; rfl
  · rw [if_neg h]
    have h2 := l16Digits_l 20 n.toNat ⟨#[]⟩ (by omega) (by omega) (by omega) (by omega) (by show 0 ≤ _; omega) k hk
    rw [Int.toNat_of_nonneg h0] at h2
    have e : dgF 20 n.toNat ++ (⟨#[]⟩ : ByteArray) = dgF 20 n.toNat := ByteArray.append_empty
    rw [h2, e]; rfl
/-- A number in digits, or the sign for none. -/
def signText (n : Int) : ByteArray := if n < 0 then ⟨#[45]⟩ else dg n.toNat
theorem signText_size (n : Int) : (signText n).size ≤ 20 := by
  unfold signText
  by_cases h : n < 0
  · rw [if_pos h]; show 1 ≤ 20; omega
  · rw [if_neg h]; exact dg_size _
theorem l18Num_eq (n : Int) (hb : n < 9223372036854775808) (k : Nat) (hk : 20 < k) : spec_l18Num.f k n = some (signText n) := by
  unfold spec_l18Num.f signText
  by_cases h : n < 0
  · rw [if_pos h, if_pos h]
  · rw [if_neg h, if_neg h, l16Digits_eq n (by omega) hb k hk]; rfl
theorem i64_lt {n : Int} (h : (Lit.int .i64 n).wf = true) : -9223372036854775808 ≤ n ∧ n < 9223372036854775808 := by
  simp only [Lit.wf, Bool.and_eq_true, decide_eq_true_eq] at h
  have e1 : IntKind.i64.min = -9223372036854775808 := by decide
  have e2 : IntKind.i64.max = 9223372036854775807 := by decide
  omega
theorem signs_eq (l : List Int) (hl : l.length ≤ 2097152) (hx : ∀ x ∈ l, x < 9223372036854775808) (k : Nat) (hk : l.length + 60 < k) : impl_signs.f k l = some (l.map signText) := by
  unfold impl_signs.f
  have h := for_st l.length (fun k' i (s : List ByteArray) => impl_signs.l0 (k' + 50) s l (l.length : Int) (i : Int)) (fun i => (l.map signText).take i) (l.map signText) ?_ ?_ (k - 50) 0 (Nat.zero_le _) (by omega)
  · rw [show k - 50 + 50 = k by omega] at h; simpa using h
  · intro k' i hi
    have hb := hx _ (rd_mem l i hi)
    have e : (l.map signText).take (i + 1) = (l.map signText).take i ++ [signText (rd l (i : Int))] := by
      rw [List.take_succ_eq_append_getElem (by simpa using hi), rd_nat l i hi]; simp
    rw [show k' + 1 + 50 = (k' + 50) + 1 by omega, impl_signs.l0, if_pos (by omega), if_pos (by omega), if_pos (by omega), wrap_succ (by omega), e]
    by_cases c : rd l (i : Int) ≥ 0
    · rw [if_pos c, digits_eq _ c hb _ (by omega), Option.bind_some, if_pos (by rw [List.length_take]; simp; omega)]
      unfold signText; rw [if_neg (by omega)]
    · rw [if_neg c, if_pos (by rw [List.length_take]; simp; omega)]
      unfold signText; rw [if_pos (by omega)]
  · intro k'
    rw [show k' + 1 + 50 = (k' + 50) + 1 by omega, impl_signs.l0, if_neg (by omega)]
    rw [List.take_of_length_le (by simp)]
theorem joinB_one (x s : ByteArray) : joinB [x] s = x := by
  apply ByteArray.ext
  simp [joinB, Lib.join_one]
theorem joinB_more (x y s : ByteArray) (r : List ByteArray) : joinB (x :: y :: r) s = (x ++ s) ++ joinB (y :: r) s := by
  apply ByteArray.ext
  simp [joinB, Lib.join, List.intercalate, ByteArray.data_append]
theorem joinSign_one (a : Int) (s : ByteArray) (h : s.size = 1) (n : Nat) (hn : n = 1) : (joinB [signText a] s).size ≤ 21 := by rw [joinB_one]; have := signText_size a; omega
theorem joinSign_size (s : ByteArray) (h : s.size = 1) : ∀ l : List Int, (joinB (l.map signText) s).size ≤ 21 * l.length
  | [] => by show (joinB [] s).size ≤ 0; exact Nat.le_refl 0
  | [a] => by show (joinB [signText a] s).size ≤ 21; rw [joinB_one]; have := signText_size a; omega
  | a :: b :: l => by
    have h1 := joinSign_size s h (b :: l); have h2 := signText_size a
    rw [List.map_cons, List.map_cons] at *; rw [joinB_more, ByteArray.size_append, ByteArray.size_append]
    simp only [List.length_cons] at h1 ⊢
    omega
theorem joinSigns_eq (l : List Int) (s : ByteArray) (h : s.size = 1) (hl : l.length ≤ 2097152) : strings_Join.f (l.map signText) s = some (joinB (l.map signText) s) := by
  unfold strings_Join.f
  have := joinSign_size s h l
  rw [if_pos ⟨by rw [List.length_map]; omega, by omega⟩]
def tallyT (a b c d e f g : Int) : ByteArray := joinB ([a, b, c, d, e, f, g].map signText) (⟨#[32]⟩ : ByteArray)
theorem implTallyText_eq (a b c d e f g : Int) (h : ∀ x ∈ [a, b, c, d, e, f, g], x < 9223372036854775808) (k : Nat) (hk : 100 < k) : impl_TallyText.f k a b c d e f g = some (tallyT a b c d e f g) := by
  unfold impl_TallyText.f
  rw [signs_eq [a, b, c, d, e, f, g] (by simp) h k (by simp; omega), Option.bind_some, joinSigns_eq _ _ rfl (by simp)]; rfl
theorem specTallyText_eq (a b c d e f g : Int) (h : ∀ x ∈ [a, b, c, d, e, f, g], x < 9223372036854775808) (k : Nat) (hk : 100 < k) : spec_TallyText.f k a b c d e f g = some (tallyT a b c d e f g) := by
  unfold spec_TallyText.f tallyT
  have sa := signText_size a; have sb := signText_size b; have sc := signText_size c; have sd := signText_size d; have se := signText_size e; have sf := signText_size f; have sg := signText_size g
  have s1 : (⟨#[32]⟩ : ByteArray).size = 1 := rfl
  have n : ∀ x ∈ [a, b, c, d, e, f, g], spec_l18Num.f k x = some (signText x) := fun x hx => l18Num_eq x (h x hx) k (by omega)
  simp only [List.map_cons, List.map_nil, joinB_more, joinB_one]
  rw [n a (by simp), Option.bind_some, if_pos (by omega), n b (by simp), Option.bind_some, if_pos (by simp only [ByteArray.size_append]; omega), if_pos (by simp only [ByteArray.size_append]; omega), n c (by simp), Option.bind_some, if_pos (by simp only [ByteArray.size_append]; omega), if_pos (by simp only [ByteArray.size_append]; omega),
    n d (by simp), Option.bind_some, if_pos (by simp only [ByteArray.size_append]; omega), if_pos (by simp only [ByteArray.size_append]; omega), n e (by simp), Option.bind_some, if_pos (by simp only [ByteArray.size_append]; omega), if_pos (by simp only [ByteArray.size_append]; omega),
    n f (by simp), Option.bind_some, if_pos (by simp only [ByteArray.size_append]; omega), if_pos (by simp only [ByteArray.size_append]; omega), n g (by simp), Option.bind_some, if_pos (by simp only [ByteArray.size_append]; omega)]
  simp only [ByteArray.append_assoc]
theorem FnExactTallyText : laws_FnExactTallyText.Pure := by
  rintro a b c d e f g ⟨ha, hb, hc, hd, he, hf, hg⟩
  refine ⟨200, ?_⟩
  unfold laws_FnExactTallyText.f laws_toTally.f
  have h : ∀ x ∈ [a, b, c, d, e, f, g], x < 9223372036854775808 := by
    have := (i64_lt ha).2; have := (i64_lt hb).2; have := (i64_lt hc).2; have := (i64_lt hd).2; have := (i64_lt he).2; have := (i64_lt hf).2; have := (i64_lt hg).2
    intro x hx; simp at hx; omega
  have e1 := implTallyText_eq a b c d e f g h 200 (by omega)
  have e2 := specTallyText_eq a b c d e f g h 200 (by omega)
  simp only [e1, e2, Option.bind_some, if_true]
end Go.Proofs.Ytljhpfbpcdkdjaa.Pure
