/- For all memories, the program's MemText returns what the reference's MemText returns, and keeps its argument: no conditions. -/
import Derived.Test.YtfkfdhnhakkihaaPFnExactMemTextx3
namespace Go.Proofs.Ytfkfdhnhakkihaa.Pure
open Go.RowKit Go.Proofs.Ytfkfdhnhakkihaa.PFnExactMemText Go.Proofs.YtfkfdhnhakkihaaW.PrintWords Go.Proofs.YtfkfdhnhakkihaaW.PrintLast
set_option linter.unusedVariables false
set_option linter.unusedSimpArgs false

theorem wrap_small {x : Int} (h0 : -9223372036854775808 ≤ x) (h : x ≤ 9223372036854775807) : wrap64 x = x := by
  unfold wrap64; omega
theorem wrap_succ {i : Nat} (h : i < 4611686018427387904) : wrap64 ((i : Int) + 1) = ((i + 1 : Nat) : Int) := by
  unfold wrap64; omega
theorem rd_nat (l : List Int) (i : Nat) (h : i < l.length) : rd l (i : Int) = l[i] := by
  unfold rd; simp [List.getD, h]
theorem rd_mem (l : List Int) (i : Nat) (h : i < l.length) : rd l (i : Int) ∈ l := by
  rw [rd_nat l i h]; exact List.getElem_mem h
/-- A loop whose state is known ahead of each round. -/
theorem for_st {σ ρ : Type} (n : Nat) (L : Nat → Nat → σ → Option ρ) (st : Nat → σ) (r : ρ) (hs : ∀ k i, i < n → L (k + 1) i (st i) = L k (i + 1) (st (i + 1))) (he : ∀ k, L (k + 1) n (st n) = some r) :
    ∀ (k i : Nat), i ≤ n → n < i + k → L k i (st i) = some r
  | 0, i, hi, hk => by omega
  | k + 1, i, hi, hk => by
    by_cases h : i < n
    · rw [hs k i h]; exact for_st n L st r hs he k (i + 1) (by omega) (by omega)
    · have : i = n := by omega
      subst this; exact he k
/-- A loop that ends at the first place where p holds. -/
theorem for_find {ρ : Type} (n : Nat) (L : Nat → Nat → Option ρ) (p : Nat → Prop) (b : Nat → ρ) (r : ρ) (hs : ∀ k i, i < n → ¬ p i → L (k + 1) i = L k (i + 1)) (hb : ∀ k i, i < n → p i → L (k + 1) i = some (b i)) (he : ∀ k, L (k + 1) n = some r) :
    ∀ (k i : Nat), i ≤ n → n < i + k → (∃ j, i ≤ j ∧ j < n ∧ p j ∧ (∀ m, i ≤ m → m < j → ¬ p m) ∧ L k i = some (b j)) ∨ (∀ j, i ≤ j → j < n → ¬ p j) ∧ L k i = some r
  | 0, i, hi, hk => by omega
  | k + 1, i, hi, hk => by
    by_cases h : i < n
    · by_cases hp : p i
      · exact .inl ⟨i, Nat.le_refl _, h, hp, fun m h1 h2 => by omega, hb k i h hp⟩
      · rw [hs k i h hp]
        rcases for_find n L p b r hs hb he k (i + 1) (by omega) (by omega) with ⟨j, h1, h2, h3, h4, h5⟩ | ⟨h1, h2⟩
        · refine .inl ⟨j, by omega, h2, h3, fun m hm1 hm2 => ?_, h5⟩
          by_cases e : m = i
          · subst e; exact hp
          · exact h4 m (by omega) hm2
        · refine .inr ⟨fun j hj1 hj2 => ?_, h2⟩
          by_cases e : j = i
          · subst e; exact hp
          · exact h1 j (by omega) hj2
    · have : i = n := by omega
      subst this; exact .inr ⟨fun j h1 h2 => by omega, he k⟩
/-- The same for a Bool: do all places pass? -/
theorem for_all {n : Nat} {L : Nat → Nat → Option Bool} (p : Nat → Prop) (hs : ∀ k i, i < n → p i → L (k + 1) i = L k (i + 1)) (hb : ∀ k i, i < n → ¬ p i → L (k + 1) i = some false) (c : Bool) (he : ∀ k, L (k + 1) n = some c) {q : Bool}
    (hq : q = true ↔ (∀ j, j < n → p j) ∧ c = true) (k : Nat) (hk : n < k) : L k 0 = some q := by
  rcases for_find n L (fun i => ¬ p i) (fun _ => false) c (fun k i h hp => hs k i h (Classical.not_not.1 hp)) (fun k i h hp => hb k i h hp) he k 0 (Nat.zero_le _) (by omega) with ⟨j, _, h2, h3, _, h5⟩ | ⟨h1, h2⟩
  · rw [h5]; congr 1; symm
    rw [Bool.eq_false_iff]; intro hh; exact h3 ((hq.1 hh).1 j h2)
  · rw [h2]; congr 1
    have : ∀ j, j < n → p j := fun j hj => Classical.not_not.1 (h1 j (Nat.zero_le _) hj)
    rw [Bool.eq_iff_iff, hq]; exact ⟨fun h => ⟨this, h⟩, fun h => h.2⟩
/-- What is written, place by place. -/
theorem set_step {α : Type} (a b : List α) (i : Nat) (hi : i < a.length) (hb : b.length = a.length) : (a.take i ++ b.drop i).set i (a[i]'hi) = a.take (i + 1) ++ b.drop (i + 1) := by
  rw [List.set_append_right _ _ (by simp; omega), List.length_take, Nat.min_eq_left (by omega), Nat.sub_self, List.take_succ_eq_append_getElem hi, List.append_assoc]
  congr 1
  rw [List.drop_eq_getElem_cons (by omega)]
  rfl
theorem snoc_step {α : Type} (a : List α) (i : Nat) (hi : i < a.length) : a.take i ++ [a[i]'hi] = a.take (i + 1) := by
  rw [List.take_succ_eq_append_getElem hi]
theorem eq_iff_all (a b : List Int) (h : a.length = b.length) : a = b ↔ ∀ j, j < a.length → rd a (j : Int) = rd b (j : Int) := by
  constructor
  · rintro rfl j _; rfl
  · intro hh; refine List.ext_getElem h (fun j h1 h2 => ?_)
    have := hh j h1
    rwa [rd_nat a j h1, rd_nat b j h2] at this
/-- What marks hold: s, s + 1, .. -/
def iota (s : Int) (n : Nat) : List Int := (List.range n).map fun (i : Nat) => s + (i : Int)
theorem iota_length (s : Int) (n : Nat) : (iota s n).length = n := by simp [iota]
theorem iota_get (s : Int) (n i : Nat) (h : i < n) : (iota s n)[i]'(by rw [iota_length]; exact h) = s + i := by simp [iota]
/-- The same as bytes. -/
def iota8 (s : Int) (n : Nat) : List Int := (List.range n).map fun (i : Nat) => (s + (i : Int)) % 256
theorem iota8_length (s : Int) (n : Nat) : (iota8 s n).length = n := by simp [iota8]
theorem iota8_get (s : Int) (n i : Nat) (h : i < n) : (iota8 s n)[i]'(by rw [iota8_length]; exact h) = (s + i) % 256 := by simp [iota8]
theorem toIntS_eq (l : List Int) (hl : l.length ≤ 1048576) (k : Nat) (hk : l.length < k) : laws_toIntS.f k l = some l := by
  unfold laws_toIntS.f
  rw [if_pos (by omega), if_pos (by simp; omega)]
  have h := for_st l.length (fun k i s => laws_toIntS.l0 k l s (i : Int)) (fun i => l.take i ++ (List.replicate l.length 0).drop i) l ?_ ?_ k 0 (Nat.zero_le _) (by omega)
  · simpa using h
  · intro k i hi
    simp only [laws_toIntS.l0]
    rw [if_pos (by omega), if_pos (by omega), if_pos (by simp; omega), wrap_succ (by omega), rd_nat l i hi]
    simp only [Int.toNat_natCast]
    rw [set_step _ _ _ hi (by simp)]
  · intro k
    simp only [laws_toIntS.l0]
    rw [if_neg (by omega)]; simp
theorem eqIntS_eq (a b : List Int) (hl : a.length ≤ 1048576) (k : Nat) (hk : a.length < k) : laws_eqIntS.f k a b = some (decide (a = b)) := by
  unfold laws_eqIntS.f
  by_cases h : a.length = b.length
  · rw [if_pos (by omega)]
    refine for_all (L := fun k i => laws_eqIntS.l0 k a b (i : Int)) (n := a.length) (fun j => rd a (j : Int) = rd b (j : Int)) ?_ ?_ true ?_ ?_ k hk
    · intro k i hi hp
      simp only [laws_eqIntS.l0]
      rw [if_pos (by omega), if_pos (by omega), if_pos (by omega), if_pos hp, wrap_succ (by omega)]
    · intro k i hi hp
      simp only [laws_eqIntS.l0]
      rw [if_pos (by omega), if_pos (by omega), if_pos (by omega), if_neg hp]
    · intro k
      simp only [laws_eqIntS.l0]
      rw [if_neg (by omega)]
    · rw [decide_eq_true_iff, eq_iff_all a b h]; simp
  · rw [if_neg (by omega)]
    have : a ≠ b := fun hh => h (by rw [hh])
    simp [this]
theorem l1In_eq (x lo hi : Int) : spec_l1In.f x lo hi = some (decide (lo ≤ x ∧ x ≤ hi)) := by
  unfold spec_l1In.f
  by_cases h : x ≥ lo
  · rw [if_pos h]; have h' : lo ≤ x := h; simp [h']
  · rw [if_neg h]; have h' : ¬ lo ≤ x := h; simp [h']
theorem from_eq (x lo hi : Int) : impl_from.f x lo hi = some (decide (lo ≤ x ∧ x ≤ hi)) := by
  unfold impl_from.f
  by_cases h : x ≥ lo
  · rw [if_pos h]; have h' : lo ≤ x := h; simp [h']
  · rw [if_neg h]; have h' : ¬ lo ≤ x := h; simp [h']
theorem isWord_eq (x : Int) : impl_isWord.f x = some (decide (0 ≤ x ∧ x ≤ 65535)) := by
  unfold impl_isWord.f; rw [from_eq]; rfl
def wordsB (l : List Int) (n : Int) : Bool := decide ((l.length : Int) = n) && l.all (fun x => decide (0 ≤ x ∧ x ≤ 65535))
theorem wordsB_mem {l : List Int} {n : Int} (h : wordsB l n = true) (x : Int) (hx : x ∈ l) : 0 ≤ x ∧ x ≤ 65535 := by
  unfold wordsB at h; rw [Bool.and_eq_true, List.all_eq_true] at h; exact of_decide_eq_true (h.2 x hx)
theorem l1Words_eq (l : List Int) (n : Int) (hl : l.length ≤ 2097152) (k : Nat) (hk : l.length < k) : spec_l1Words.f k l n = some (wordsB l n) := by
  unfold spec_l1Words.f
  refine for_all (L := fun k i => spec_l1Words.l0 k l n (i : Int)) (n := l.length) (fun j => 0 ≤ rd l (j : Int) ∧ rd l (j : Int) ≤ 65535) ?_ ?_ (decide ((l.length : Int) = n)) ?_ ?_ k hk
  · intro k i hi hp
    simp only [spec_l1Words.l0]
    rw [if_pos (by omega), if_pos (by omega), l1In_eq, decide_eq_true hp, Option.bind_some, if_pos rfl, wrap_succ (by omega)]
  · intro k i hi hp
    simp only [spec_l1Words.l0]
    rw [if_pos (by omega), if_pos (by omega), l1In_eq, decide_eq_false hp, Option.bind_some, if_neg (by simp)]
  · intro k
    simp only [spec_l1Words.l0]
    rw [if_neg (by omega)]; rfl
  · unfold wordsB
    rw [Bool.and_eq_true, List.all_eq_true]
    constructor
    · rintro ⟨h1, h2⟩; exact ⟨fun j hj => of_decide_eq_true (h2 _ (rd_mem l j hj)), h1⟩
    · rintro ⟨h1, h2⟩; refine ⟨h2, fun x hx => ?_⟩
      obtain ⟨j, hj, rfl⟩ := List.getElem_of_mem hx
      have := h1 j hj; rw [rd_nat l j hj] at this; exact decide_eq_true this
theorem wordsOk_eq (l : List Int) (n : Int) (hl : l.length ≤ 2097152) (k : Nat) (hk : l.length < k) : impl_wordsOk.f k l n = some (wordsB l n) := by
  unfold impl_wordsOk.f
  by_cases h : (l.length : Int) = n
  · rw [if_pos h]
    unfold slices_ContainsFunc_at_impl_wordsOk_1.f slices_IndexFunc_at_impl_wordsOk_1.f
    have hf : ∀ x, impl_wordsOk_1.f x = some (!decide (0 ≤ x ∧ x ≤ 65535)) := fun x => by unfold impl_wordsOk_1.f; rw [isWord_eq]; rfl
    have hs : ∀ k i, i < l.length → ¬ ¬ (0 ≤ rd l (i : Int) ∧ rd l (i : Int) ≤ 65535) → slices_IndexFunc_at_impl_wordsOk_1.l0 (k + 1) l (l.length : Int) (i : Int) = slices_IndexFunc_at_impl_wordsOk_1.l0 k l (l.length : Int) ((i + 1 : Nat) : Int) := by
      intro k i hi hp
      simp only [slices_IndexFunc_at_impl_wordsOk_1.l0]
      rw [if_pos (by omega), if_pos (by omega), if_pos (by omega), hf, decide_eq_true (Classical.not_not.1 hp), Option.bind_some, if_neg (by simp), wrap_succ (by omega)]
    have hb : ∀ k i, i < l.length → ¬ (0 ≤ rd l (i : Int) ∧ rd l (i : Int) ≤ 65535) → slices_IndexFunc_at_impl_wordsOk_1.l0 (k + 1) l (l.length : Int) (i : Int) = some (i : Int) := by
      intro k i hi hp
      simp only [slices_IndexFunc_at_impl_wordsOk_1.l0]
      rw [if_pos (by omega), if_pos (by omega), if_pos (by omega), hf, decide_eq_false hp, Option.bind_some, if_pos (by simp)]
    have he : ∀ k, slices_IndexFunc_at_impl_wordsOk_1.l0 (k + 1) l (l.length : Int) (l.length : Int) = some (-1) := by
      intro k
      simp only [slices_IndexFunc_at_impl_wordsOk_1.l0]
      rw [if_neg (by omega)]
    rcases for_find l.length (fun k i => slices_IndexFunc_at_impl_wordsOk_1.l0 k l (l.length : Int) (i : Int)) (fun j => ¬ (0 ≤ rd l (j : Int) ∧ rd l (j : Int) ≤ 65535)) (fun j => (j : Int)) (-1) hs hb he k 0 (Nat.zero_le _) (by omega) with ⟨j, _, h2, h3, _, h5⟩ | ⟨h1, h2⟩
    · have h5' : slices_IndexFunc_at_impl_wordsOk_1.l0 k l (l.length : Int) 0 = some (j : Int) := h5
      rw [h5']
      simp only [Option.bind_some]; congr 1; symm
      rw [decide_eq_true (by omega : (j : Int) ≥ 0), Bool.not_true, wordsB, Bool.and_eq_false_iff]; right
      rw [Bool.eq_false_iff]; intro hh
      exact h3 (of_decide_eq_true (List.all_eq_true.1 hh _ (rd_mem l j h2)))
    · have h2' : slices_IndexFunc_at_impl_wordsOk_1.l0 k l (l.length : Int) 0 = some (-1) := h2
      rw [h2']
      simp only [Option.bind_some]; congr 1; symm
      rw [decide_eq_false (by omega : ¬ (-1 : Int) ≥ 0), Bool.not_false, wordsB, decide_eq_true h, Bool.true_and, List.all_eq_true]
      intro x hx
      obtain ⟨j, hj, rfl⟩ := List.getElem_of_mem hx
      have := Classical.not_not.1 (h1 j (Nat.zero_le _) hj); rw [rd_nat l j hj] at this; exact decide_eq_true this
  · rw [if_neg h, wordsB, decide_eq_false h, Bool.false_and]
theorem memOk_eq (l : List Int) (hl : l.length ≤ 2097152) (k : Nat) (hk : l.length < k) : impl_memOk.f k l = some (wordsB l 24) := by
  unfold impl_memOk.f; rw [wordsOk_eq l 24 hl k hk]; rfl
/-- A number in decimal digits, of at most f of them. -/
def dgF : Nat → Nat → ByteArray
  | 0, _ => ⟨#[]⟩
  | f + 1, n => if n < 10 then ⟨#[UInt8.ofNat (48 + n)]⟩ else dgF f (n / 10) ++ ⟨#[UInt8.ofNat (48 + n % 10)]⟩
def dg (n : Nat) : ByteArray := dgF 20 n
theorem dgF_size : ∀ f n, (dgF f n).size ≤ f
  | 0, _ => Nat.le_refl _
  | f + 1, n => by
    unfold dgF
    by_cases h : n < 10
    · rw [if_pos h]; show 1 ≤ f + 1; omega
    · rw [if_neg h, ByteArray.size_append]; have := dgF_size f (n / 10); show _ + 1 ≤ _; omega
theorem enc_digit (d : Nat) (h : d < 10) : Go.Utf8.encode (wrap32 (wrap64 (48 + (d : Int)))) = ⟨#[UInt8.ofNat (48 + d)]⟩ := by
  have e : wrap32 (wrap64 (48 + (d : Int))) = 48 + (d : Int) := by unfold wrap32 wrap64; omega
  rw [e]
  have hc : d = 0 ∨ d = 1 ∨ d = 2 ∨ d = 3 ∨ d = 4 ∨ d = 5 ∨ d = 6 ∨ d = 7 ∨ d = 8 ∨ d = 9 := by omega
  rcases hc with rfl | rfl | rfl | rfl | rfl | rfl | rfl | rfl | rfl | rfl <;> simp [Go.Utf8.encode, Go.Utf8.valid]
theorem digits_f : ∀ (f : Nat) (n : Nat), f ≤ 20 → n < 10 ^ f → n < 9223372036854775808 → 0 < f → ∀ k, 2 * f < k → impl_digits.f k (n : Int) = some (dgF f n)
  | 0, n, _, _, _, h, _, _ => by omega
  | f + 1, n, hf, hn, hb, _, k, hk => by
    obtain ⟨k, rfl⟩ : ∃ m, k = m + 2 := ⟨k - 2, by omega⟩
    simp only [impl_digits.f, impl_digits.j0, dgF]
    rw [if_neg (by omega), if_neg (by simp), if_neg (by omega)]
    by_cases h : n < 10
    · rw [if_pos (by omega), if_pos h, enc_digit n h]
    · have hd : Int.tdiv (n : Int) 10 = ((n / 10 : Nat) : Int) := by rw [Int.tdiv_eq_ediv_of_nonneg (by omega)]; omega
      have hm : Int.tmod (n : Int) 10 = ((n % 10 : Nat) : Int) := by rw [Int.tmod_eq_emod_of_nonneg (by omega)]; omega
      have hp : n / 10 < 10 ^ f := by rw [Nat.pow_succ] at hn; omega
      have hf0 : 0 < f := by
        rcases Nat.eq_zero_or_pos f with e | e
        · subst e; simp at hp; omega
        · exact e
      rw [if_neg (by omega), if_neg h, hd, hm, wrap_small (by omega) (by omega), digits_f f (n / 10) (by omega) hp (by omega) hf0 k (by omega), Option.bind_some, enc_digit (n % 10) (by omega), if_pos (by have := dgF_size f (n / 10); show _ + 1 ≤ _; omega)]
theorem digits_eq (n : Int) (h0 : 0 ≤ n) (hb : n < 9223372036854775808) (k : Nat) (hk : 40 < k) : impl_digits.f k n = some (dg n.toNat) := by
  have h := digits_f 20 n.toNat (by omega) (by omega) (by omega) (by omega) k (by omega)
  rwa [Int.toNat_of_nonneg h0] at h
theorem dg_size (n : Nat) : (dg n).size ≤ 20 := dgF_size 20 n
theorem str_digit (d : Nat) (h : d < 10) : strOfNums [wrap64 (48 + (d : Int)) % 256] = ⟨#[UInt8.ofNat (48 + d)]⟩ := by
  have e : wrap64 (48 + (d : Int)) % 256 = 48 + (d : Int) := by unfold wrap64; omega
  rw [e]
  have hc : d = 0 ∨ d = 1 ∨ d = 2 ∨ d = 3 ∨ d = 4 ∨ d = 5 ∨ d = 6 ∨ d = 7 ∨ d = 8 ∨ d = 9 := by omega
  rcases hc with rfl | rfl | rfl | rfl | rfl | rfl | rfl | rfl | rfl | rfl <;> rfl
theorem l16Digits_l : ∀ (f : Nat) (n : Nat) (acc : ByteArray), f ≤ 20 → 0 < n → n < 10 ^ f → n < 9223372036854775808 → acc.size ≤ 1000 - 20 + f * 0 + (20 - f) → ∀ k, f < k → spec_l16Digits.l0 k (n : Int) acc = some (dgF f n ++ acc)
  | 0, n, _, _, h0, hn, _, _, _, _ => by simp at hn; omega
  | f + 1, n, acc, hf, h0, hn, hb, ha, k, hk => by
    obtain ⟨k, rfl⟩ : ∃ m, k = m + 1 := ⟨k - 1, by omega⟩
    have hd : Int.tdiv (n : Int) 10 = ((n / 10 : Nat) : Int) := by rw [Int.tdiv_eq_ediv_of_nonneg (by omega)]; omega
    have hm : Int.tmod (n : Int) 10 = ((n % 10 : Nat) : Int) := by rw [Int.tmod_eq_emod_of_nonneg (by omega)]; omega
    simp only [spec_l16Digits.l0, dgF]
    rw [if_pos (by omega), hd, hm, Option.bind_some, str_digit (n % 10) (by omega), if_pos (by show 1 + _ ≤ _; omega), wrap_small (by omega) (by omega)]
    by_cases h : n < 10
    · rw [if_pos h, show n / 10 = 0 by omega, show n % 10 = n by omega]
      obtain ⟨k, rfl⟩ : ∃ m, k = m + 1 := ⟨k - 1, by omega⟩
      simp only [spec_l16Digits.l0]
      rw [if_neg (by omega)]
    · have hp : n / 10 < 10 ^ f := by rw [Nat.pow_succ] at hn; omega
      rw [if_neg h, l16Digits_l f (n / 10) _ (by omega) (by omega) hp (by omega) (by rw [ByteArray.size_append]; show 1 + _ ≤ _; omega) k (by omega), ByteArray.append_assoc]
theorem l16Digits_eq (n : Int) (h0 : 0 ≤ n) (hb : n < 9223372036854775808) (k : Nat) (hk : 20 < k) : spec_l16Digits.f k n = some (dg n.toNat) := by
  unfold spec_l16Digits.f
  by_cases h : n ≤ 0
  · have : n = 0 := by omega
    subst this; rw [if_pos h]; rfl
  · rw [if_neg h]
    have h2 := l16Digits_l 20 n.toNat ⟨#[]⟩ (by omega) (by omega) (by omega) (by omega) (by show 0 ≤ _; omega) k hk
    rw [Int.toNat_of_nonneg h0] at h2
    have e : dgF 20 n.toNat ++ (⟨#[]⟩ : ByteArray) = dgF 20 n.toNat := ByteArray.append_empty
    rw [h2, e]; rfl
theorem joinB_one (x s : ByteArray) : joinB [x] s = x := by
  apply ByteArray.ext
  simp [joinB, Lib.join_one]
theorem joinB_more (x y s : ByteArray) (r : List ByteArray) : joinB (x :: y :: r) s = (x ++ s) ++ joinB (y :: r) s := by
  apply ByteArray.ext
  simp [joinB, Lib.join, List.intercalate, ByteArray.data_append]
def dgI (x : Int) : ByteArray := dg x.toNat
theorem dgI_size (x : Int) : (dgI x).size ≤ 20 := dg_size _
theorem numbers_eq (l : List Int) (hl : l.length ≤ 2097152) (hx : ∀ x ∈ l, 0 ≤ x ∧ x < 9223372036854775808) (k : Nat) (hk : l.length + 60 < k) : impl_numbers.f k l = some (l.map dgI) := by
  unfold impl_numbers.f
  have h := for_st l.length (fun k' i (s : List ByteArray) => impl_numbers.l0 (k' + 50) s l (l.length : Int) (i : Int)) (fun i => (l.map dgI).take i) (l.map dgI) ?_ ?_ (k - 50) 0 (Nat.zero_le _) (by omega)
  · rw [show k - 50 + 50 = k by omega] at h; simpa using h
  · intro k' i hi
    have hb := hx _ (rd_mem l i hi)
    have e : (l.map dgI).take (i + 1) = (l.map dgI).take i ++ [dgI (rd l (i : Int))] := by
      rw [List.take_succ_eq_append_getElem (by simpa using hi), rd_nat l i hi]; simp
    rw [show k' + 1 + 50 = (k' + 50) + 1 by omega, impl_numbers.l0, if_pos (by omega), if_pos (by omega), if_pos (by omega), wrap_succ (by omega), e, digits_eq _ hb.1 hb.2 _ (by omega), Option.bind_some, if_pos (by rw [List.length_take]; simp; omega)]
    rfl
  · intro k'
    rw [show k' + 1 + 50 = (k' + 50) + 1 by omega, impl_numbers.l0, if_neg (by omega)]
    rw [List.take_of_length_le (by simp)]
theorem joinI_size (s : ByteArray) (h : s.size = 1) : ∀ l : List Int, (joinB (l.map dgI) s).size ≤ 21 * l.length
  | [] => by show (joinB [] s).size ≤ 0; exact Nat.le_refl 0
  | [a] => by show (joinB [dgI a] s).size ≤ 21; rw [joinB_one]; have := dgI_size a; omega
  | a :: b :: l => by
    have h1 := joinI_size s h (b :: l); have h2 := dgI_size a
    rw [List.map_cons, List.map_cons] at *; rw [joinB_more, ByteArray.size_append, ByteArray.size_append]
    simp only [List.length_cons] at h1 ⊢
    omega
def spB (l : List Int) : ByteArray := joinB (l.map dgI) (⟨#[32]⟩ : ByteArray)
theorem spB_size (l : List Int) : (spB l).size ≤ 21 * l.length := joinI_size _ rfl l
theorem spaced_eq (l : List Int) (hl : l.length ≤ 2097152) (hx : ∀ x ∈ l, 0 ≤ x ∧ x < 9223372036854775808) (k : Nat) (hk : l.length + 60 < k) : impl_spaced.f k l = some (spB l) := by
  unfold impl_spaced.f
  have h := spB_size l
  rw [numbers_eq l hl hx k hk, Option.bind_some]
  unfold strings_Join.f
  rw [if_pos ⟨by rw [List.length_map]; omega, by show (spB l).size ≤ _; omega⟩]; rfl
/-- Memory as text, up to a cell. -/
def memT (l : List Int) : Nat → ByteArray
  | 0 => ⟨#[]⟩
  | i + 1 => memT l i ++ (dgI (rd l (i : Int)) ++ (if i % 4 = 3 then (⟨#[10]⟩ : ByteArray) else (⟨#[32]⟩ : ByteArray)))
theorem memT_size (l : List Int) : ∀ i, (memT l i).size ≤ 21 * i
  | 0 => Nat.le_refl _
  | i + 1 => by
    have h := memT_size l i; have h1 := dgI_size (rd l (i : Int))
    unfold memT
    rw [ByteArray.size_append, ByteArray.size_append]
    by_cases c : i % 4 = 3
    · rw [if_pos c]; show _ + (_ + 1) ≤ _; omega
    · rw [if_neg c]; show _ + (_ + 1) ≤ _; omega
theorem cut4 (l : List Int) (m : Nat) (h : m + 4 ≤ l.length) : (l.take (m + 4)).drop m = [rd l ((m : Nat) : Int), rd l ((m + 1 : Nat) : Int), rd l ((m + 2 : Nat) : Int), rd l ((m + 3 : Nat) : Int)] := by
  rw [rd_nat l m (by omega), rd_nat l (m + 1) (by omega), rd_nat l (m + 2) (by omega), rd_nat l (m + 3) (by omega)]
  refine List.ext_getElem (by simp; omega) (fun j h1 h2 => ?_)
  have hj : j = 0 ∨ j = 1 ∨ j = 2 ∨ j = 3 := by simp at h2; omega
  rcases hj with rfl | rfl | rfl | rfl <;> simp
theorem memT4 (l : List Int) (i : Nat) : memT l (4 * (i + 1)) = memT l (4 * i) ++ (spB [rd l ((4 * i : Nat) : Int), rd l ((4 * i + 1 : Nat) : Int), rd l ((4 * i + 2 : Nat) : Int), rd l ((4 * i + 3 : Nat) : Int)] ++ (⟨#[10]⟩ : ByteArray)) := by
  rw [show 4 * (i + 1) = 4 * i + 1 + 1 + 1 + 1 by omega]
  simp only [memT]
  rw [if_neg (by omega), if_neg (by omega), if_neg (by omega), if_pos (by omega)]
  unfold spB
  simp only [List.map_cons, List.map_nil, joinB_more, joinB_one, ByteArray.append_assoc]
def memText (l : List Int) : ByteArray := if wordsB l 24 = true then memT l 24 else ⟨#[]⟩
theorem wordsB_len {l : List Int} (h : wordsB l 24 = true) : l.length = 24 := by unfold wordsB at h; rw [Bool.and_eq_true] at h; have := of_decide_eq_true h.1; omega
theorem implMemText_eq (l : List Int) (hl : l.length ≤ 1048576) (k : Nat) (hk : 1100000 < k) : impl_MemText.f k l = some (memText l) := by
  unfold impl_MemText.f memText
  rw [memOk_eq l (by omega) _ (by omega), Option.bind_some]
  by_cases w : wordsB l 24 = true
  · rw [if_pos w, if_pos w]
    have ln := wordsB_len w
    have h := for_st 6 (fun k' i (s : ByteArray) => impl_MemText.l0 (k' + 100) l s ((4 * i : Nat) : Int)) (fun i => memT l (4 * i)) (memT l 24) ?_ ?_ (k - 100) 0 (Nat.zero_le _) (by omega)
    · rw [show k - 100 + 100 = k by omega] at h; exact h
    · intro k' i hi
      have hs := memT_size l (4 * i)
      have hz : (spB [rd l ((4 * i : Nat) : Int), rd l ((4 * i + 1 : Nat) : Int), rd l ((4 * i + 2 : Nat) : Int), rd l ((4 * i + 3 : Nat) : Int)]).size ≤ 84 := spB_size _
      have e4 : wrap64 (((4 * i : Nat) : Int) + 4) = ((4 * (i + 1) : Nat) : Int) := by unfold wrap64; omega
      rw [show k' + 1 + 100 = (k' + 100) + 1 by omega, impl_MemText.l0, e4, if_pos (by omega), if_pos (by omega), if_pos (by omega), if_pos (by omega), Int.toNat_natCast, Int.toNat_natCast, show 4 * (i + 1) = 4 * i + 4 by omega, cut4 l (4 * i) (by omega),
        spaced_eq _ (by simp) ?_ _ (show 4 + 60 < _ by omega), Option.bind_some, if_pos (by omega), if_pos ?_, show 4 * i + 4 = 4 * (i + 1) by omega, memT4]
      · rw [ByteArray.size_append]; show _ + (_ + 1) ≤ _; omega
      · intro x hx
        have hm : ∀ j : Nat, j < 24 → 0 ≤ rd l (j : Int) ∧ rd l (j : Int) < 9223372036854775808 := fun j hj => by have := wordsB_mem w _ (rd_mem l j (by omega)); omega
        simp only [List.mem_cons, List.not_mem_nil, or_false] at hx
        rcases hx with rfl | rfl | rfl | rfl <;> exact hm _ (by omega)
    · intro k'
      rw [show k' + 1 + 100 = (k' + 100) + 1 by omega, impl_MemText.l0, if_neg (by omega)]
  · rw [if_neg w, if_neg w]
theorem specMemText_eq (l : List Int) (hl : l.length ≤ 1048576) (k : Nat) (hk : 2000000 < k) : spec_MemText.f k l = some (memText l) := by
  unfold spec_MemText.f memText
  by_cases w : wordsB l 24 = true
  · rw [if_pos w]
    have ln := wordsB_len w
    have h := for_st 24 (fun k' i (s : ByteArray) => spec_MemText.l0 (2 * k' + (k - 60)) l s (i : Int)) (fun i => memT l i) (memT l 24) ?_ ?_ 30 0 (Nat.zero_le _) (by omega)
    · have e : 2 * 30 + (k - 60) = k := by omega
      simp only [e] at h; exact h
    · intro k' i hi
      have hs := memT_size l i; have h1 := dgI_size (rd l (i : Int))
      have hA := wordsB_mem w _ (rd_mem l i (by omega))
      have hm : Int.tmod (i : Int) 4 = ((i % 4 : Nat) : Int) := by rw [Int.tmod_eq_emod_of_nonneg (by omega)]; omega
      rw [show 2 * (k' + 1) + (k - 60) = (2 * k' + (k - 60)) + 1 + 1 by omega, spec_MemText.l0]
      rw [if_pos (by omega), l1Words_eq l 24 (by omega) _ (by omega), Option.bind_some, spec_MemText.j1, if_pos w, if_pos (by omega), if_pos (by omega), l16Digits_eq _ hA.1 (by omega) _ (by omega), Option.bind_some, hm]
      have hd : (dg (rd l (i : Int)).toNat).size ≤ 20 := h1
      rw [if_pos (by omega), wrap_succ (by omega), memT]
      by_cases c : i % 4 = 3
      · rw [if_pos (by omega), if_pos (by rw [ByteArray.size_append]; omega), if_pos c, ByteArray.append_assoc]; rfl
      · rw [if_neg (by omega), if_pos (by rw [ByteArray.size_append]; omega), if_neg c, ByteArray.append_assoc]; rfl
    · intro k'
      rw [show 2 * (k' + 1) + (k - 60) = (2 * k' + (k - 60)) + 1 + 1 by omega, spec_MemText.l0]
      rw [if_neg (by omega), spec_MemText.j1, if_neg (by simp)]
  · rw [if_neg w]
    have w' : wordsB l 24 = false := by rw [Bool.eq_false_iff]; exact w
    obtain ⟨k, rfl⟩ : ∃ m, k = m + 2 := ⟨k - 2, by omega⟩
    rw [spec_MemText.l0]
    by_cases h0 : (0 : Int) < (l.length : Int)
    · rw [if_pos h0, l1Words_eq l 24 (by omega) _ (by omega), Option.bind_some, spec_MemText.j1, w', if_neg (by simp)]
    · rw [if_neg h0, spec_MemText.j1, if_neg (by simp)]
theorem FnExactMemText : laws_FnExactMemText.Pure := by
  intro l _ _ _
  obtain ⟨k, hk⟩ : ∃ k : Nat, 4000000 < k := ⟨4000001, by omega⟩
  refine ⟨k, ?_⟩
  unfold laws_FnExactMemText.f
  by_cases h : (l.length : Int) > 1048576
  · rw [if_pos h]
  have hl : l.length ≤ 1048576 := by omega
  have e1 := toIntS_eq l hl k (by omega)
  have e2 := specMemText_eq l hl k (by omega)
  have e3 := implMemText_eq l hl k (by omega)
  have e4 := eqIntS_eq l l hl k (by omega)
  rw [decide_eq_true rfl] at e4
  simp only [if_neg h, e1, e2, e3, e4, Option.bind_some, if_true]
end Go.Proofs.Ytfkfdhnhakkihaa.Pure
