/- For all bytes: what was done by a drawn run is read from its text as it was, and what is read is told as it was: no conditions (the card of the tied row). -/
import Derived.Test.YtaakcbgpmabaaaaDoorPFnStoriesx18
namespace Go.Proofs.YtaakcbgpmabaaaaDoor.Pure
open Go.RowKit Go.Proofs.YtaakcbgpmabaaaaDoor.PFnStories Go.Proofs.YtaakcbgpmabaaaaDoorW.PrintWords Go.Proofs.YtaakcbgpmabaaaaDoorW.PrintLast
set_option linter.unusedVariables false
set_option linter.unusedSimpArgs false

theorem wrap_small {x : Int} (h0 : -9223372036854775808 ≤ x) (h : x ≤ 9223372036854775807) : wrap64 x = x := by
 unfold wrap64; omega
theorem wrap_succ {i : Nat} (h : i < 4611686018427387904) : wrap64 ((i : Int) + 1) = ((i + 1 : Nat) : Int) := by
 unfold wrap64; omega
theorem rd_nat (l : List Int) (i : Nat) (h : i < l.length) : rd l (i : Int) = l[i] := by
 unfold rd; simp [List.getD, h]
theorem rd_mem (l : List Int) (i : Nat) (h : i < l.length) : rd l (i : Int) ∈ l := by
 rw [rd_nat l i h]; exact List.getElem_mem h
theorem for_st {σ ρ : Type} (n : Nat) (L : Nat → Nat → σ → Option ρ) (st : Nat → σ) (r : ρ) (hs : ∀ k i, i < n → L (k + 1) i (st i) = L k (i + 1) (st (i + 1))) (he : ∀ k, L (k + 1) n (st n) = some r) :
  ∀ (k i : Nat), i ≤ n → n < i + k → L k i (st i) = some r
 | 0, i, hi, hk => by omega
 | k + 1, i, hi, hk => by
  by_cases h : i < n
  ·rw [hs k i h]; exact for_st n L st r hs he k (i + 1) (by omega) (by omega)
  ·have : i = n := by omega
   subst this; exact he k
theorem for_find {ρ : Type} (n : Nat) (L : Nat → Nat → Option ρ) (p : Nat → Prop) (b : Nat → ρ) (r : ρ) (hs : ∀ k i, i < n → ¬ p i → L (k + 1) i = L k (i + 1)) (hb : ∀ k i, i < n → p i → L (k + 1) i = some (b i)) (he : ∀ k, L (k + 1) n = some r) :
  ∀ (k i : Nat), i ≤ n → n < i + k → (∃ j, i ≤ j ∧ j < n ∧ p j ∧ (∀ m, i ≤ m → m < j → ¬ p m) ∧ L k i = some (b j)) ∨ (∀ j, i ≤ j → j < n → ¬ p j) ∧ L k i = some r
 | 0, i, hi, hk => by omega
 | k + 1, i, hi, hk => by
  by_cases h : i < n
  ·by_cases hp : p i
   ·exact .inl ⟨i, Nat.le_refl _, h, hp, fun m h1 h2 => by omega, hb k i h hp⟩
   ·rw [hs k i h hp]
    rcases for_find n L p b r hs hb he k (i + 1) (by omega) (by omega) with ⟨j, h1, h2, h3, h4, h5⟩ | ⟨h1, h2⟩
    ·refine .inl ⟨j, by omega, h2, h3, fun m hm1 hm2 => ?_, h5⟩
     by_cases e : m = i
     ·subst e; exact hp
     ·exact h4 m (by omega) hm2
    ·refine .inr ⟨fun j hj1 hj2 => ?_, h2⟩
     by_cases e : j = i
     ·subst e; exact hp
     ·exact h1 j (by omega) hj2
  ·have : i = n := by omega
   subst this; exact .inr ⟨fun j h1 h2 => by omega, he k⟩
theorem for_all {n : Nat} {L : Nat → Nat → Option Bool} (p : Nat → Prop) (hs : ∀ k i, i < n → p i → L (k + 1) i = L k (i + 1)) (hb : ∀ k i, i < n → ¬ p i → L (k + 1) i = some false) (c : Bool) (he : ∀ k, L (k + 1) n = some c) {q : Bool}
  (hq : q = true ↔ (∀ j, j < n → p j) ∧ c = true) (k : Nat) (hk : n < k) : L k 0 = some q := by
 rcases for_find n L (fun i => ¬ p i) (fun _ => false) c (fun k i h hp => hs k i h (Classical.not_not.1 hp)) (fun k i h hp => hb k i h hp) he k 0 (Nat.zero_le _) (by omega) with ⟨j, _, h2, h3, _, h5⟩ | ⟨h1, h2⟩
 ·rw [h5]; congr 1; symm
  rw [Bool.eq_false_iff]; intro hh; exact h3 ((hq.1 hh).1 j h2)
 ·rw [h2]; congr 1
  have : ∀ j, j < n → p j := fun j hj => Classical.not_not.1 (h1 j (Nat.zero_le _) hj)
  rw [Bool.eq_iff_iff, hq]; exact ⟨fun h => ⟨this, h⟩, fun h => h.2⟩
theorem snoc_step {α : Type} (a : List α) (i : Nat) (hi : i < a.length) : a.take i ++ [a[i]'hi] = a.take (i + 1) := by
 rw [List.take_succ_eq_append_getElem hi]
theorem wraps_i64 (n : Int) (h0 : 0 ≤ n) (h1 : n < 2 ^ 62) : IntKind.i64.wrap n = n := by rw [IntKind.wrap_i64]; omega
def wordsB (l : List Int) (n : Int) : Bool := decide ((l.length : Int) = n) && l.all (fun x => decide (0 ≤ x ∧ x ≤ 65535))
theorem wordsB_mem {l : List Int} {n : Int} (h : wordsB l n = true) (x : Int) (hx : x ∈ l) : 0 ≤ x ∧ x ≤ 65535 := by
 unfold wordsB at h; rw [Bool.and_eq_true, List.all_eq_true] at h; exact of_decide_eq_true (h.2 x hx)
def hartB (regs : List Int) (pc st : Int) : Bool := wordsB regs 4 && (decide (0 ≤ pc ∧ pc ≤ 23) && decide (0 ≤ st ∧ st ≤ 2))
theorem ite_some' (b c : Bool) : (if b = true then some c else some false) = some (b && c) := by cases b <;> rfl
theorem hartB_len {r : List Int} {p s : Int} (h : hartB r p s = true) : r.length = 4 := by
 unfold hartB wordsB at h; rw [Bool.and_eq_true, Bool.and_eq_true] at h; have := of_decide_eq_true h.1.1; omega
theorem wordsB_24 {l : List Int} (h : wordsB l 24 = true) : l.length = 24 := by unfold wordsB at h; rw [Bool.and_eq_true] at h; have := of_decide_eq_true h.1; omega
theorem tmod_pos (n c : Int) (h : 0 ≤ n) : Int.tmod n c = n % c := Int.tmod_eq_emod_of_nonneg h
theorem tmod_neg (n c : Int) (h : n < 0) : Int.tmod n c = -((-n) % c) := by
 rw [← Int.tmod_eq_emod_of_nonneg (by omega : 0 ≤ -n), Int.neg_tmod, Int.neg_neg]
theorem tdiv_pos (n c : Int) (h : 0 ≤ n) : Int.tdiv n c = n / c := Int.tdiv_eq_ediv_of_nonneg h
theorem tmod_up (n c : Int) (hc : 0 < c) (hb : c ≤ 4294967296) : Int.tmod (Int.tmod n c + c) c = n % c := by
 have h1 := Int.emod_nonneg n (by omega : c ≠ 0)
 have h2 := Int.emod_lt_of_pos n hc
 rcases Int.lt_or_le n 0 with h | h
 ·rw [tmod_neg n c h]
  have h3 := Int.emod_nonneg (-n) (by omega : c ≠ 0)
  have h4 := Int.emod_lt_of_pos (-n) hc
  rw [tmod_pos _ _ (by omega), Int.add_emod_right, ← Int.sub_emod_right]
  have := Int.emod_add_mul_ediv (-n) c
  have e : -(-n % c) - c = n + c * ((-n) / c - 1) := by
   have : n = -(-n % c) - c * ((-n) / c) := by omega
   rw [Int.mul_sub]; omega
  rw [e, Int.add_mul_emod_self_left]
 ·rw [tmod_pos n c h, tmod_pos _ _ (by omega), Int.add_emod_right, Int.emod_emod_of_dvd _ (Int.dvd_refl c)]
theorem tmod_bd (n c : Int) (hc : 0 < c) : -c < Int.tmod n c ∧ Int.tmod n c < c := by
 rcases Int.lt_or_le n 0 with h | h
 ·rw [tmod_neg n c h]
  have h3 := Int.emod_nonneg (-n) (by omega : c ≠ 0)
  have h4 := Int.emod_lt_of_pos (-n) hc
  omega
 ·rw [tmod_pos n c h]
  have h3 := Int.emod_nonneg n (by omega : c ≠ 0)
  have h4 := Int.emod_lt_of_pos n hc
  omega
theorem l1In_eq (x lo hi : Int) : spec_l1In.f x lo hi = some (decide (lo ≤ x ∧ x ≤ hi)) := by
 unfold spec_l1In.f
 by_cases h : x ≥ lo
 ·rw [if_pos h]; have h' : lo ≤ x := h; simp [h']
 ·rw [if_neg h]; have h' : ¬ lo ≤ x := h; simp [h']
theorem from_eq (x lo hi : Int) : impl_from.f x lo hi = some (decide (lo ≤ x ∧ x ≤ hi)) := by
 unfold impl_from.f
 by_cases h : x ≥ lo
 ·rw [if_pos h]; have h' : lo ≤ x := h; simp [h']
 ·rw [if_neg h]; have h' : ¬ lo ≤ x := h; simp [h']
theorem l1Words_eq (l : List Int) (n : Int) (hl : l.length ≤ 2097152) (k : Nat) (hk : l.length < k) : spec_l1Words.f k l n = some (wordsB l n) := by
 unfold spec_l1Words.f
 refine for_all (L := fun k i => spec_l1Words.l0 k l n (i : Int)) (n := l.length) (fun j => 0 ≤ rd l (j : Int) ∧ rd l (j : Int) ≤ 65535) ?_ ?_ (decide ((l.length : Int) = n)) ?_ ?_ k hk
 ·intro k i hi hp
  simp only [spec_l1Words.l0]
  rw [if_pos (by omega), if_pos (by omega), l1In_eq, decide_eq_true hp, Option.bind_some, if_pos rfl, wrap_succ (by omega)]
 ·intro k i hi hp
  simp only [spec_l1Words.l0]
  rw [if_pos (by omega), if_pos (by omega), l1In_eq, decide_eq_false hp, Option.bind_some, if_neg (by simp)]
 ·intro k
  simp only [spec_l1Words.l0]
  rw [if_neg (by omega)]; rfl
 ·unfold wordsB
  rw [Bool.and_eq_true, List.all_eq_true]
  constructor
  ·rintro ⟨h1, h2⟩; exact ⟨fun j hj => of_decide_eq_true (h2 _ (rd_mem l j hj)), h1⟩
  ·rintro ⟨h1, h2⟩; refine ⟨h2, fun x hx => ?_⟩
   obtain ⟨j, hj, rfl⟩ := List.getElem_of_mem hx
   have := h1 j hj; rw [rd_nat l j hj] at this; exact decide_eq_true this
def insOkB (o r a b n : Int) : Bool :=
 (if o = 1 then decide (a = 0) && decide (b = 0) else if o = 2 then decide (n = 0) else if o = 3 then decide (b = 0) else if o = 4 then decide (b = 0) else if o = 5 then decide (r = 0) else if o = 6 then true
  else if o = 7 then decide (r = 0) && decide (b = 0) else if o = 8 then decide (r = 0) && (decide (a = 0) && decide (b = 0)) else if o = 9 then decide (r = 0) && (decide (a = 0) && (decide (b = 0) && decide (n = 0))) else if o = 10 then decide (n = 0) else false)
 && (decide (0 ≤ r ∧ r ≤ 3) && (decide (0 ≤ a ∧ a ≤ 3) && (decide (0 ≤ b ∧ b ≤ 3) && decide (0 ≤ n ∧ n ≤ 63))))
theorem insOkB_bounds {o r a b n : Int} (h : insOkB o r a b n = true) : 1 ≤ o ∧ o ≤ 10 ∧ 0 ≤ r ∧ r ≤ 3 ∧ 0 ≤ a ∧ a ≤ 3 ∧ 0 ≤ b ∧ b ≤ 3 ∧ 0 ≤ n ∧ n ≤ 63 := by
 unfold insOkB at h
 simp only [Bool.and_eq_true, decide_eq_true_eq] at h
 obtain ⟨h0, ⟨h1, h1'⟩, ⟨h2, h2'⟩, ⟨h3, h3'⟩, ⟨h4, h4'⟩⟩ := h
 refine ⟨?_, ?_, h1, h1', h2, h2', h3, h3', h4, h4'⟩
 ·by_cases c : 1 ≤ o
  ·exact c
  ·exfalso
   rw [if_neg (by omega), if_neg (by omega), if_neg (by omega), if_neg (by omega), if_neg (by omega), if_neg (by omega), if_neg (by omega), if_neg (by omega), if_neg (by omega), if_neg (by omega)] at h0
   cases h0
 ·by_cases c : o ≤ 10
  ·exact c
  ·exfalso
   rw [if_neg (by omega), if_neg (by omega), if_neg (by omega), if_neg (by omega), if_neg (by omega), if_neg (by omega), if_neg (by omega), if_neg (by omega), if_neg (by omega), if_neg (by omega)] at h0
   cases h0
theorem ite_some (b c : Bool) : (if b = true then some c else some false) = some (b && c) := by cases b <;> rfl
theorem l8Field_eq (x m : Int) (h : Bool) : spec_l8Field.f x m h = some (decide (0 ≤ x ∧ x ≤ m) && (h || decide (x = 0))) := by
 unfold spec_l8Field.f
 rw [l1In_eq, Option.bind_some]
 have e : (x == 0) = decide (x = 0) := rfl
 rw [e]
 cases h <;> simp only [if_true, Bool.false_eq_true, if_false, Bool.true_or, Bool.false_or, ite_some]
theorem specInsOk_eq (o r a b n : Int) : spec_InsOk.f o r a b n = some (insOkB o r a b n) := by
 unfold spec_InsOk.f spec_l8Has.f
 simp only [l1In_eq, l8Field_eq, Option.bind_some, ite_some]
 by_cases ho : 1 ≤ o ∧ o ≤ 10
 ·have hc : o = 1 ∨ o = 2 ∨ o = 3 ∨ o = 4 ∨ o = 5 ∨ o = 6 ∨ o = 7 ∨ o = 8 ∨ o = 9 ∨ o = 10 := by omega
  rw [decide_eq_true ho]
  rcases hc with rfl | rfl | rfl | rfl | rfl | rfl | rfl | rfl | rfl | rfl <;>
   (simp only [if_true, Option.bind_some, List.length_cons, List.length_nil]
    rw [if_pos (by omega), if_pos (by omega)]
    simp only [rd, Option.bind_some, Bool.true_and]
    congr 1
    rw [Bool.eq_iff_iff]
    simp [insOkB, show Go.bits .and .i64 0 1 = 0 by decide, show Go.bits .and .i64 0 2 = 0 by decide, show Go.bits .and .i64 0 4 = 0 by decide, show Go.bits .and .i64 0 8 = 0 by decide,
     show Go.bits .and .i64 7 1 = 1 by decide, show Go.bits .and .i64 7 2 = 2 by decide, show Go.bits .and .i64 7 4 = 4 by decide, show Go.bits .and .i64 7 8 = 0 by decide,
     show Go.bits .and .i64 8 1 = 0 by decide, show Go.bits .and .i64 8 2 = 0 by decide, show Go.bits .and .i64 8 4 = 0 by decide, show Go.bits .and .i64 8 8 = 8 by decide,
     show Go.bits .and .i64 9 1 = 1 by decide, show Go.bits .and .i64 9 2 = 0 by decide, show Go.bits .and .i64 9 4 = 0 by decide, show Go.bits .and .i64 9 8 = 8 by decide,
     show Go.bits .and .i64 10 1 = 0 by decide, show Go.bits .and .i64 10 2 = 2 by decide, show Go.bits .and .i64 10 4 = 0 by decide, show Go.bits .and .i64 10 8 = 8 by decide,
     show Go.bits .and .i64 11 1 = 1 by decide, show Go.bits .and .i64 11 2 = 2 by decide, show Go.bits .and .i64 11 4 = 0 by decide, show Go.bits .and .i64 11 8 = 8 by decide,
     show Go.bits .and .i64 14 1 = 0 by decide, show Go.bits .and .i64 14 2 = 2 by decide, show Go.bits .and .i64 14 4 = 4 by decide, show Go.bits .and .i64 14 8 = 8 by decide,
     show Go.bits .and .i64 15 1 = 1 by decide, show Go.bits .and .i64 15 2 = 2 by decide, show Go.bits .and .i64 15 4 = 4 by decide, show Go.bits .and .i64 15 8 = 8 by decide]
    try omega)
 ·have hn : ∀ c, 1 ≤ c → c ≤ 10 → o ≠ c := fun c h1 h2 e => ho (by omega)
  simp [ho, insOkB, hn]
def dgF : Nat → Nat → ByteArray
 | 0, _ => ⟨#[]⟩
 | f + 1, n => if n < 10 then ⟨#[UInt8.ofNat (48 + n)]⟩ else dgF f (n / 10) ++ ⟨#[UInt8.ofNat (48 + n % 10)]⟩
def dg (n : Nat) : ByteArray := dgF 20 n
theorem dgF_size : ∀ f n, (dgF f n).size ≤ f
 | 0, _ => Nat.le_refl _
 | f + 1, n => by
  unfold dgF
  by_cases h : n < 10
  ·rw [if_pos h]; show 1 ≤ f + 1; omega
  ·rw [if_neg h, ByteArray.size_append]; have := dgF_size f (n / 10); show _ + 1 ≤ _; omega
theorem enc_digit (d : Nat) (h : d < 10) : Go.Utf8.encode (wrap32 (wrap64 (48 + (d : Int)))) = ⟨#[UInt8.ofNat (48 + d)]⟩ := by
 have e : wrap32 (wrap64 (48 + (d : Int))) = 48 + (d : Int) := by unfold wrap32 wrap64; omega
 rw [e]
 have hc : d = 0 ∨ d = 1 ∨ d = 2 ∨ d = 3 ∨ d = 4 ∨ d = 5 ∨ d = 6 ∨ d = 7 ∨ d = 8 ∨ d = 9 := by omega
 rcases hc with rfl | rfl | rfl | rfl | rfl | rfl | rfl | rfl | rfl | rfl <;> simp [Go.Utf8.encode, Go.Utf8.valid]
theorem digits_f : ∀ (f : Nat) (n : Nat), f ≤ 20 → n < 10 ^ f → n < 9223372036854775808 → 0 < f → ∀ k, 2 * f < k → impl_digits.f k (n : Int) = some (dgF f n)
 | 0, n, _, _, _, h, _, _ => by omega
 | f + 1, n, hf, hn, hb, _, k, hk => by
  obtain ⟨k, rfl⟩ : ∃ m, k = m + 2 := ⟨k - 2, by omega⟩
  simp only [impl_digits.f, impl_digits.j0, dgF]
  rw [if_neg (by omega), if_neg (by simp), if_neg (by omega)]
  by_cases h : n < 10
  ·rw [if_pos (by omega), if_pos h, enc_digit n h]
  ·have hd : Int.tdiv (n : Int) 10 = ((n / 10 : Nat) : Int) := by rw [Int.tdiv_eq_ediv_of_nonneg (by omega)]; omega
   have hm : Int.tmod (n : Int) 10 = ((n % 10 : Nat) : Int) := by rw [Int.tmod_eq_emod_of_nonneg (by omega)]; omega
   have hp : n / 10 < 10 ^ f := by rw [Nat.pow_succ] at hn; omega
   have hf0 : 0 < f := by
    rcases Nat.eq_zero_or_pos f with e | e
    ·subst e; simp at hp; omega
    ·exact e
   rw [if_neg (by omega), if_neg h, hd, hm, wrap_small (by omega) (by omega), digits_f f (n / 10) (by omega) hp (by omega) hf0 k (by omega), Option.bind_some, enc_digit (n % 10) (by omega), if_pos (by have := dgF_size f (n / 10); show _ + 1 ≤ _; omega)]
theorem digits_eq (n : Int) (h0 : 0 ≤ n) (hb : n < 9223372036854775808) (k : Nat) (hk : 40 < k) : impl_digits.f k n = some (dg n.toNat) := by
 have h := digits_f 20 n.toNat (by omega) (by omega) (by omega) (by omega) k (by omega)
 rwa [Int.toNat_of_nonneg h0] at h
theorem dg_size (n : Nat) : (dg n).size ≤ 20 := dgF_size 20 n
theorem str_digit (d : Nat) (h : d < 10) : strOfNums [wrap64 (48 + (d : Int)) % 256] = ⟨#[UInt8.ofNat (48 + d)]⟩ := by
 have e : wrap64 (48 + (d : Int)) % 256 = 48 + (d : Int) := by unfold wrap64; omega
 rw [e]
 have hc : d = 0 ∨ d = 1 ∨ d = 2 ∨ d = 3 ∨ d = 4 ∨ d = 5 ∨ d = 6 ∨ d = 7 ∨ d = 8 ∨ d = 9 := by omega
 rcases hc with rfl | rfl | rfl | rfl | rfl | rfl | rfl | rfl | rfl | rfl <;> rfl
theorem l16Digits_l : ∀ (f : Nat) (n : Nat) (acc : ByteArray), f ≤ 20 → 0 < n → n < 10 ^ f → n < 9223372036854775808 → acc.size ≤ 1000 - 20 + f * 0 + (20 - f) → ∀ k, f < k → spec_l16Digits.l0 k (n : Int) acc = some (dgF f n ++ acc)
 | 0, n, _, _, h0, hn, _, _, _, _ => by simp at hn; omega
 | f + 1, n, acc, hf, h0, hn, hb, ha, k, hk => by
  obtain ⟨k, rfl⟩ : ∃ m, k = m + 1 := ⟨k - 1, by omega⟩
  have hd : Int.tdiv (n : Int) 10 = ((n / 10 : Nat) : Int) := by rw [Int.tdiv_eq_ediv_of_nonneg (by omega)]; omega
  have hm : Int.tmod (n : Int) 10 = ((n % 10 : Nat) : Int) := by rw [Int.tmod_eq_emod_of_nonneg (by omega)]; omega
  simp only [spec_l16Digits.l0, dgF]
  rw [if_pos (by omega), hd, hm, Option.bind_some, str_digit (n % 10) (by omega), if_pos (by show 1 + _ ≤ _; omega), wrap_small (by omega) (by omega)]
  by_cases h : n < 10
  ·rw [if_pos h, show n / 10 = 0 by omega, show n % 10 = n by omega]
   obtain ⟨k, rfl⟩ : ∃ m, k = m + 1 := ⟨k - 1, by omega⟩
   simp only [spec_l16Digits.l0]
   rw [if_neg (by omega)]
  ·have hp : n / 10 < 10 ^ f := by rw [Nat.pow_succ] at hn; omega
   rw [if_neg h, l16Digits_l f (n / 10) _ (by omega) (by omega) hp (by omega) (by rw [ByteArray.size_append]; show 1 + _ ≤ _; omega) k (by omega), ByteArray.append_assoc]
theorem l16Digits_eq (n : Int) (h0 : 0 ≤ n) (hb : n < 9223372036854775808) (k : Nat) (hk : 20 < k) : spec_l16Digits.f k n = some (dg n.toNat) := by
 unfold spec_l16Digits.f
 by_cases h : n ≤ 0
 ·have : n = 0 := by omega
  subst this; rw [if_pos h]; rfl
 ·rw [if_neg h]
  have h2 := l16Digits_l 20 n.toNat ⟨#[]⟩ (by omega) (by omega) (by omega) (by omega) (by show 0 ≤ _; omega) k hk
  rw [Int.toNat_of_nonneg h0] at h2
  have e : dgF 20 n.toNat ++ (⟨#[]⟩ : ByteArray) = dgF 20 n.toNat := ByteArray.append_empty
  rw [h2, e]; rfl
def signText (n : Int) : ByteArray := if n < 0 then ⟨#[45]⟩ else dg n.toNat
theorem signText_size (n : Int) : (signText n).size ≤ 20 := by
 unfold signText
 by_cases h : n < 0
 ·rw [if_pos h]; show 1 ≤ 20; omega
 ·rw [if_neg h]; exact dg_size _
theorem l18Num_eq (n : Int) (hb : n < 9223372036854775808) (k : Nat) (hk : 20 < k) : spec_l18Num.f k n = some (signText n) := by
 unfold spec_l18Num.f signText
 by_cases h : n < 0
 ·rw [if_pos h, if_pos h]
 ·rw [if_neg h, if_neg h, l16Digits_eq n (by omega) hb k hk]; rfl
theorem signs_eq (l : List Int) (hl : l.length ≤ 2097152) (hx : ∀ x ∈ l, x < 9223372036854775808) (k : Nat) (hk : l.length + 60 < k) : impl_signs.f k l = some (l.map signText) := by
 unfold impl_signs.f
 have h := for_st l.length (fun k' i (s : List ByteArray) => impl_signs.l0 (k' + 50) s l (l.length : Int) (i : Int)) (fun i => (l.map signText).take i) (l.map signText) ?_ ?_ (k - 50) 0 (Nat.zero_le _) (by omega)
 ·rw [show k - 50 + 50 = k by omega] at h; simpa using h
 ·intro k' i hi
  have hb := hx _ (rd_mem l i hi)
  have e : (l.map signText).take (i + 1) = (l.map signText).take i ++ [signText (rd l (i : Int))] := by
   rw [List.take_succ_eq_append_getElem (by simpa using hi), rd_nat l i hi]; simp
  rw [show k' + 1 + 50 = (k' + 50) + 1 by omega, impl_signs.l0, if_pos (by omega), if_pos (by omega), if_pos (by omega), wrap_succ (by omega), e]
  by_cases c : rd l (i : Int) ≥ 0
  ·rw [if_pos c, digits_eq _ c hb _ (by omega), Option.bind_some, if_pos (by rw [List.length_take]; simp; omega)]
   unfold signText; rw [if_neg (by omega)]
  ·rw [if_neg c, if_pos (by rw [List.length_take]; simp; omega)]
   unfold signText; rw [if_pos (by omega)]
 ·intro k'
  rw [show k' + 1 + 50 = (k' + 50) + 1 by omega, impl_signs.l0, if_neg (by omega)]
  rw [List.take_of_length_le (by simp)]
theorem joinB_one (x s : ByteArray) : joinB [x] s = x := by
 apply ByteArray.ext
 simp [joinB, Lib.join_one]
theorem joinB_more (x y s : ByteArray) (r : List ByteArray) : joinB (x :: y :: r) s = (x ++ s) ++ joinB (y :: r) s := by
 apply ByteArray.ext
 simp [joinB, Lib.join, List.intercalate, ByteArray.data_append]
theorem joinSign_size (s : ByteArray) (h : s.size = 1) : ∀ l : List Int, (joinB (l.map signText) s).size ≤ 21 * l.length
 | [] => by show (joinB [] s).size ≤ 0; exact Nat.le_refl 0
 | [a] => by show (joinB [signText a] s).size ≤ 21; rw [joinB_one]; have := signText_size a; omega
 | a :: b :: l => by
  have h1 := joinSign_size s h (b :: l); have h2 := signText_size a
  rw [List.map_cons, List.map_cons] at *; rw [joinB_more, ByteArray.size_append, ByteArray.size_append]
  simp only [List.length_cons] at h1 ⊢
  omega
theorem joinSigns_eq (l : List Int) (s : ByteArray) (h : s.size = 1) (hl : l.length ≤ 2097152) : strings_Join.f (l.map signText) s = some (joinB (l.map signText) s) := by
 unfold strings_Join.f
 have := joinSign_size s h l
 rw [if_pos ⟨by rw [List.length_map]; omega, by omega⟩]
theorem specHartOk_eq (regs : List Int) (pc st : Int) (hl : regs.length ≤ 2097152) (k : Nat) (hk : regs.length < k) : spec_HartOk.f k regs pc st = some (hartB regs pc st) := by
 unfold spec_HartOk.f hartB
 simp only [l1Words_eq regs 4 hl k hk, l1In_eq, Option.bind_some, ite_some']
def eventT (a b c d e : Int) : ByteArray := joinB ([a, b, c, d, e].map signText) (⟨#[32]⟩ : ByteArray)
theorem eventT_size (a b c d e : Int) : (eventT a b c d e).size ≤ 105 := joinSign_size _ rfl [a, b, c, d, e]
theorem implEventText_eq (a b c d e : Int) (h : ∀ x ∈ [a, b, c, d, e], x < 9223372036854775808) (k : Nat) (hk : 100 < k) : impl_EventText.f k a b c d e = some (eventT a b c d e) := by
 unfold impl_EventText.f
 rw [signs_eq [a, b, c, d, e] (by simp) h k (by simp; omega), Option.bind_some, joinSigns_eq _ _ rfl (by simp)]; rfl
theorem specEventText_eq (a b c d e : Int) (h : ∀ x ∈ [a, b, c, d, e], x < 9223372036854775808) (k : Nat) (hk : 100 < k) : spec_EventText.f k a b c d e = some (eventT a b c d e) := by
 unfold spec_EventText.f eventT
 have sa := signText_size a; have sb := signText_size b; have sc := signText_size c; have sd := signText_size d; have se := signText_size e
 have s1 : (⟨#[32]⟩ : ByteArray).size = 1 := rfl
 have n : ∀ x ∈ [a, b, c, d, e], spec_l18Num.f k x = some (signText x) := fun x hx => l18Num_eq x (h x hx) k (by omega)
 simp only [List.map_cons, List.map_nil, joinB_more, joinB_one]
 rw [n a (by simp), Option.bind_some, if_pos (by omega), n b (by simp), Option.bind_some, if_pos (by simp only [ByteArray.size_append]; omega), if_pos (by simp only [ByteArray.size_append]; omega), n c (by simp), Option.bind_some, if_pos (by simp only [ByteArray.size_append]; omega), if_pos (by simp only [ByteArray.size_append]; omega),
  n d (by simp), Option.bind_some, if_pos (by simp only [ByteArray.size_append]; omega), if_pos (by simp only [ByteArray.size_append]; omega), n e (by simp), Option.bind_some, if_pos (by simp only [ByteArray.size_append]; omega)]
 simp only [ByteArray.append_assoc]
theorem rdEvent (l : List S31) (i : Nat) (h : i < l.length) : rd_T31 l (i : Int) = l[i] := by
 unfold rd_T31; simp [List.getD, h]
def evT (x : S31) : ByteArray := eventT x.f0 x.f1 x.f2 x.f3 x.f4
def evOk (x : S31) : Prop := ∀ y ∈ [x.f0, x.f1, x.f2, x.f3, x.f4], y < 9223372036854775808
def traceT (l : List S31) : Nat → ByteArray
 | 0 => ⟨#[]⟩
 | i + 1 => traceT l i ++ (evT (rd_T31 l (i : Int)) ++ (⟨#[10]⟩ : ByteArray))
theorem traceT_size (l : List S31) : ∀ i, (traceT l i).size ≤ 106 * i
 | 0 => Nat.le_refl _
 | i + 1 => by
  have h := traceT_size l i
  have h1 : (evT (rd_T31 l (i : Int))).size ≤ 105 := eventT_size _ _ _ _ _
  unfold traceT; rw [ByteArray.size_append, ByteArray.size_append]; show _ + (_ + 1) ≤ _; omega
def traceText (l : List S31) : ByteArray := if l.length ≤ 60 then traceT l l.length else ⟨#[]⟩
theorem implTraceText_eq (l : List S31) (hx : ∀ x ∈ l, evOk x) (k : Nat) (hk : 1000 < k) : impl_TraceText.f k l = some (traceText l) := by
 unfold impl_TraceText.f traceText
 by_cases h : l.length ≤ 60
 ·rw [if_neg (by omega), if_pos h]
  have hh := for_st l.length (fun k' i (t : ByteArray) => impl_TraceText.l0 (k' + 200) t l (l.length : Int) (i : Int)) (fun i => traceT l i) (traceT l l.length) ?_ ?_ (k - 200) 0 (Nat.zero_le _) (by omega)
  ·rw [show k - 200 + 200 = k by omega] at hh; exact hh
  ·intro k' i hi
   have hs := traceT_size l i
   have h1 : (evT (rd_T31 l (i : Int))).size ≤ 105 := eventT_size _ _ _ _ _
   have ho : evOk (rd_T31 l (i : Int)) := by rw [rdEvent l i hi]; exact hx _ (List.getElem_mem hi)
   have he := implEventText_eq _ _ _ _ _ ho (k' + 200) (by omega)
   have he' : impl_EventText.f (k' + 200) (rd_T31 l (i : Int)).f0 (rd_T31 l (i : Int)).f1 (rd_T31 l (i : Int)).f2 (rd_T31 l (i : Int)).f3 (rd_T31 l (i : Int)).f4 = some (evT (rd_T31 l (i : Int))) := he
   rw [show k' + 1 + 200 = (k' + 200) + 1 by omega, impl_TraceText.l0, if_pos (by omega), if_pos (by omega), if_pos (by omega), he', Option.bind_some, if_pos (by omega), if_pos (by rw [ByteArray.size_append]; show _ + (_ + 1) ≤ _; omega), wrap_succ (by omega)]
   rfl
  ·intro k'
   rw [show k' + 1 + 200 = (k' + 200) + 1 by omega, impl_TraceText.l0, if_neg (by omega)]
 ·rw [if_pos (by omega), if_neg h]
theorem specTraceText_eq (l : List S31) (hx : ∀ x ∈ l, evOk x) (k : Nat) (hk : 1000 < k) : spec_TraceText.f k l = some (traceText l) := by
 unfold spec_TraceText.f traceText
 by_cases h : l.length ≤ 60
 ·rw [if_pos h]
  have hh := for_st l.length (fun k' i (t : ByteArray) => spec_TraceText.l0 (k' + 200) l t (i : Int)) (fun i => traceT l i) (traceT l l.length) ?_ ?_ (k - 200) 0 (Nat.zero_le _) (by omega)
  ·rw [show k - 200 + 200 = k by omega] at hh; exact hh
  ·intro k' i hi
   have hs := traceT_size l i
   have h1 : (evT (rd_T31 l (i : Int))).size ≤ 105 := eventT_size _ _ _ _ _
   have ho : evOk (rd_T31 l (i : Int)) := by rw [rdEvent l i hi]; exact hx _ (List.getElem_mem hi)
   have he := specEventText_eq _ _ _ _ _ ho (k' + 200) (by omega)
   have he' : spec_EventText.f (k' + 200) (rd_T31 l (i : Int)).f0 (rd_T31 l (i : Int)).f1 (rd_T31 l (i : Int)).f2 (rd_T31 l (i : Int)).f3 (rd_T31 l (i : Int)).f4 = some (evT (rd_T31 l (i : Int))) := he
   rw [show k' + 1 + 200 = (k' + 200) + 1 by omega, spec_TraceText.l0, if_pos (by omega), if_pos (by omega), if_pos (by omega), he', Option.bind_some, if_pos (by omega), if_pos (by rw [ByteArray.size_append]; omega), wrap_succ (by omega), traceT, ByteArray.append_assoc]
  ·intro k'
   rw [show k' + 1 + 200 = (k' + 200) + 1 by omega, spec_TraceText.l0, if_neg (by omega)]
 ·rw [if_neg h]
  obtain ⟨k, rfl⟩ : ∃ m, k = m + 1 := ⟨k - 1, by omega⟩
  rw [spec_TraceText.l0]
  rw [if_pos (by omega), if_neg (by omega)]
def cutA (c : UInt8) : List UInt8 → List UInt8 → List (List UInt8)
 | acc, [] => [acc]
 | acc, b :: l => if b = c then acc :: cutA c [] l else cutA c (acc ++ [b]) l
theorem cutA_cons (c : UInt8) (acc : List UInt8) (b : UInt8) (l : List UInt8) : cutA c acc (b :: l) = if b = c then acc :: cutA c [] l else cutA c (acc ++ [b]) l := by rw [cutA]
def byB (l : List UInt8) : ByteArray := ⟨l.toArray⟩
def cutB (s : ByteArray) (c : UInt8) : List ByteArray := (cutA c [] s.data.toList).map byB
theorem ex_toList (s : ByteArray) (a b : Nat) : s.extract a b = byB ((s.data.toList.take b).drop a) := by
 apply ByteArray.ext
 rw [ByteArray.data_extract]
 unfold byB
 apply Array.ext'
 rw [Array.toList_extract]
 simp [List.extract_eq_take_drop, List.drop_take]
theorem cutA_len (c : UInt8) : ∀ (l acc : List UInt8), (cutA c acc l).length = l.count c + 1
 | [], acc => by simp [cutA]
 | b :: l, acc => by
  rw [cutA_cons]
  by_cases h : b = c
  ·rw [if_pos h, List.length_cons, cutA_len c l, h, List.count_cons_self]
  ·rw [if_neg h, cutA_len c l, List.count_cons_of_ne h]
theorem toList_nil (s : ByteArray) : s.toList = ([] : List UInt8) ↔ s.size = 0 := by
 constructor
 ·intro h
  have h2 := congrArg List.length h
  rcases Nat.eq_zero_or_pos s.size with e | e
  ·exact e
  ·exfalso
   unfold ByteArray.toList at h
   unfold ByteArray.toList.loop at h
   rw [if_pos e] at h
   have : ∀ (n i : Nat) (r : List UInt8), s.size - i = n → r ≠ [] → ByteArray.toList.loop s i r ≠ [] := by
    intro n
    induction n with
    | zero => intro i r hn hr; unfold ByteArray.toList.loop; rw [if_neg (by omega)]; simpa using hr
    | succ n ih => intro i r hn hr; unfold ByteArray.toList.loop; rw [if_pos (by omega)]; exact ih _ _ (by omega) (by simp)
   exact this _ _ _ rfl (by simp) h
 ·intro h
  unfold ByteArray.toList ByteArray.toList.loop
  rw [if_neg (by omega)]; rfl
theorem size_list (s : ByteArray) : s.data.toList.length = s.size := rfl
theorem bt_list (s : ByteArray) (i : Nat) (h : i < s.data.toList.length) : bt s (i : Int) = ((s.data.toList[i]).toNat : Int) := by
 unfold bt
 have h2 : (i : Int).toNat < s.size := by rw [Int.toNat_natCast]; exact h
 rw [dif_pos h2]
 rfl
theorem l28Cut_l (s : ByteArray) (c : UInt8) (hs : s.size ≤ 1048576) : ∀ (d i f : Nat) (out : List ByteArray) (k : Nat), i + d = s.size → f ≤ i → out.length ≤ i → d + 1 < k →
  spec_l28Cut.l0 k s (c.toNat : Int) out (f : Int) (i : Int) = some (out ++ (cutA c ((s.data.toList.take i).drop f) (s.data.toList.drop i)).map byB)
 | 0, i, f, out, k, hi, hf, ho, hk => by
  obtain ⟨k, rfl⟩ : ∃ m, k = m + 1 + 1 := ⟨k - 2, by omega⟩
  rw [spec_l28Cut.l0, if_pos (by omega), if_pos (by omega), if_pos (by omega), if_pos (by omega), if_pos (by omega), spec_l28Cut.l0, if_neg (by rw [wrap_succ (by omega)]; omega), ex_toList, Int.toNat_natCast, Int.toNat_natCast]
  rw [show s.data.toList.drop i = [] from List.drop_eq_nil_of_le (by rw [size_list]; omega)]; rfl
 | d + 1, i, f, out, k, hi, hf, ho, hk => by
  obtain ⟨k, rfl⟩ : ∃ m, k = m + 1 := ⟨k - 1, by omega⟩
  have hl : i < s.data.toList.length := by rw [size_list]; omega
  rw [spec_l28Cut.l0, if_pos (by omega), if_neg (by omega), if_pos (by omega), if_pos (by omega), bt_list s i hl, List.drop_eq_getElem_cons hl]
  by_cases h : s.data.toList[i] = c
  ·rw [if_pos (by rw [h]), if_pos (by omega), if_pos (by omega), if_pos (by omega), ex_toList, Int.toNat_natCast, Int.toNat_natCast, wrap_succ (by omega), l28Cut_l s c hs d (i + 1) (i + 1) _ k (by omega) (by omega) (by simp; omega) (by omega)]
   rw [cutA_cons, if_pos h, List.map_cons, List.append_assoc, show (s.data.toList.take (i + 1)).drop (i + 1) = [] from List.drop_eq_nil_of_le (by rw [List.length_take]; omega)]
   rfl
  ·rw [if_neg (show ¬ ((s.data.toList[i].toNat : Nat) : Int) = (c.toNat : Int) from fun e => h (UInt8.toNat_inj.1 (by omega))), wrap_succ (by omega), l28Cut_l s c hs d (i + 1) f _ k (by omega) (by omega) (by omega) (by omega)]
   have e : (s.data.toList.take (i + 1)).drop f = (s.data.toList.take i).drop f ++ [s.data.toList[i]] := by
    rw [List.take_succ_eq_append_getElem hl, List.drop_append_of_le_length (by rw [List.length_take]; omega)]
   rw [e]
   rw [cutA_cons, if_neg h]
theorem l28Cut_eq (s : ByteArray) (c : UInt8) (hs : s.size ≤ 1048576) (k : Nat) (hk : s.size + 1 < k) : spec_l28Cut.f k s (c.toNat : Int) = some (cutB s c) := by
 unfold spec_l28Cut.f cutB
 have h := l28Cut_l s c hs s.size 0 0 [] k (by omega) (by omega) (by simp) hk
 simpa using h
theorem idx_cut (c : UInt8) : ∀ l : List UInt8, (Lib.indexByte l c = -1 ∧ l.count c = 0 ∧ ∀ acc, cutA c acc l = [acc ++ l]) ∨ ∃ m : Nat, Lib.indexByte l c = (m : Int) ∧ m < l.length ∧ l.count c = (l.drop (m + 1)).count c + 1 ∧ ∀ acc, cutA c acc l = (acc ++ l.take m) :: cutA c [] (l.drop (m + 1))
 | [] => .inl ⟨rfl, rfl, fun acc => by simp [cutA]⟩
 | b :: l => by
  by_cases h : b = c
  ·exact .inr ⟨0, by unfold Lib.indexByte; rw [if_pos (by simpa using h)]; rfl, by simp, by subst h; simp, fun acc => by rw [cutA_cons, if_pos h]; simp⟩
  ·have hb : ¬ (b == c) = true := by simpa using h
   rcases idx_cut c l with ⟨e1, e2, e3⟩ | ⟨m, e1, e2, e3, e4⟩
   ·refine .inl ⟨?_, ?_, fun acc => ?_⟩
    ·unfold Lib.indexByte; rw [if_neg hb, e1]; rfl
    ·rw [List.count_cons_of_ne h, e2]
    ·rw [cutA_cons, if_neg h, e3]; simp
   ·refine .inr ⟨m + 1, ?_, by simpa using e2, ?_, fun acc => ?_⟩
    ·unfold Lib.indexByte; rw [if_neg hb, e1, if_neg (by simp)]; rfl
    ·rw [List.count_cons_of_ne h, e3]; simp
    ·rw [cutA_cons, if_neg h, e4]; simp
theorem index_one (s : ByteArray) (c : UInt8) : strings_Index.f s (⟨#[c]⟩ : ByteArray) = some (Lib.indexByte s.data.toList c) := by
 unfold strings_Index.f stringslite_Index.f
 have hz : (⟨#[c]⟩ : ByteArray).size = 1 := rfl
 rw [if_pos hz, Option.bind_some]; rfl
theorem wrap_zero (m : Nat) (h : m ≤ 1048576) : wrap64 ((m : Int) + 0) = (m : Int) := by rw [Int.add_zero]; exact wrap_small (by omega) (by omega)
theorem wrap_one (c : UInt8) (m : Nat) (h : m ≤ 1048576) : wrap64 ((m : Int) + ((⟨#[c]⟩ : ByteArray).size : Int)) = ((m + 1 : Nat) : Int) := by
 have hz : (((⟨#[c]⟩ : ByteArray).size : Nat) : Int) = 1 := rfl
 rw [hz]; exact wrap_succ (by omega)
theorem genSplit_step (c : UInt8) (s : ByteArray) (n i m : Nat) (a : List ByteArray) (k : Nat) (hs : s.size ≤ 1048576) (hi : i + 1 < n) (hn : n ≤ 1048577) (ha : a.length = n) (hm : m < s.size) (e1 : strings_Index.f s (⟨#[c]⟩ : ByteArray) = some (m : Int)) :
  strings_genSplit.l0 (k + 1) s (⟨#[c]⟩ : ByteArray) 0 ((n : Int) - 1) a (i : Int) = strings_genSplit.l0 k (s.extract (m + 1) s.size) (⟨#[c]⟩ : ByteArray) 0 ((n : Int) - 1) (a.set i (s.extract 0 m)) ((i + 1 : Nat) : Int) := by
 have w0 : wrap64 ((m : Int) + 0) = (m : Int) := wrap_zero m (by omega)
 have w1 := wrap_one c m (by omega)
 rw [strings_genSplit.l0, if_pos (by omega), e1, Option.bind_some, if_neg (by omega), w0, if_pos (by omega), if_pos (by omega), if_pos (by omega), if_pos (by omega), w1, if_pos (by omega), if_pos (by omega), wrap_succ (by omega), Int.toNat_natCast, Int.toNat_natCast, Int.toNat_natCast]
theorem genSplit_end (c : UInt8) (s : ByteArray) (n i : Nat) (a : List ByteArray) (k : Nat) (hi : i + 1 = n) (hn : n ≤ 1048577) (ha : a.length = n) :
  strings_genSplit.l0 (k + 1) s (⟨#[c]⟩ : ByteArray) 0 ((n : Int) - 1) a (i : Int) = some ((a.set i s).take (i + 1)) := by
 rw [strings_genSplit.l0, if_neg (by omega), if_pos (by omega), if_pos (by omega), wrap_succ (by omega), if_pos (by omega), if_pos (by omega), Int.toNat_natCast, Int.toNat_natCast]
theorem take_set (a : List ByteArray) (i : Nat) (v : ByteArray) (h : i < a.length) : (a.set i v).take (i + 1) = a.take i ++ [v] := by
 rw [← snoc_step (a.set i v) i (by simpa using h), List.take_set_of_le (Nat.le_refl _)]; simp
theorem ex_rest (s : ByteArray) (m : Nat) : (s.extract (m + 1) s.size).data.toList = s.data.toList.drop (m + 1) := by
 rw [ex_toList]; show (List.drop (m + 1) (List.take s.size s.data.toList)) = _; rw [List.take_of_length_le (by rw [size_list]; exact Nat.le_refl _)]
theorem ex_size (s : ByteArray) (m : Nat) (hs : s.size ≤ 1048576) : (s.extract (m + 1) s.size).size ≤ 1048576 := by
 rw [← size_list, ex_rest, List.length_drop, size_list]; omega
theorem genSplit_l (c : UInt8) (n : Nat) (hn : n ≤ 1048577) : ∀ (q i : Nat) (s : ByteArray) (a : List ByteArray) (k : Nat), s.size ≤ 1048576 → s.data.toList.count c = q → i + q + 1 = n → a.length = n → q < k →
  strings_genSplit.l0 k s (⟨#[c]⟩ : ByteArray) 0 ((n : Int) - 1) a (i : Int) = some (a.take i ++ cutB s c)
 | 0, i, s, a, k, hs, hc, hi, ha, hk => by
  obtain ⟨k, rfl⟩ : ∃ m, k = m + 1 := ⟨k - 1, Nat.eq_add_of_sub_eq hk rfl⟩
  rw [genSplit_end c s n i a k hi hn ha, take_set a i s (by rw [ha, ← hi]; exact Nat.lt_succ_self _)]
  rcases idx_cut c s.data.toList with ⟨_, _, e⟩ | ⟨m, _, _, e, _⟩
  ·unfold cutB
   rw [e]; rfl
  ·rw [hc] at e; cases e
 | q + 1, i, s, a, k, hs, hc, hi, ha, hk => by
  obtain ⟨k, rfl⟩ : ∃ m, k = m + 1 := ⟨k - 1, Nat.eq_add_of_sub_eq (Nat.lt_of_le_of_lt (Nat.zero_le _) hk) rfl⟩
  rcases idx_cut c s.data.toList with ⟨_, e, _⟩ | ⟨m, e1, e2, e3, e4⟩
  ·rw [hc] at e; cases e
  ·have hcq : (s.data.toList.drop (m + 1)).count c = q := Nat.succ.inj (e3.symm.trans hc)
   have e5 : strings_Index.f s (⟨#[c]⟩ : ByteArray) = some (m : Int) := by rw [index_one, e1]
   rw [genSplit_step c s n i m a k hs (by clear e1 e2 e3 e4 e5 hcq hc; omega) hn ha e2 e5,
    genSplit_l c n hn q (i + 1) (s.extract (m + 1) s.size) (a.set i (s.extract 0 m)) k (ex_size s m hs) (by rw [ex_rest]; exact hcq) (by clear e1 e2 e3 e4 e5 hcq hc; omega) (by rw [List.length_set]; exact ha) (Nat.lt_of_succ_lt_succ hk)]
   rw [take_set a i _ (by clear e1 e2 e3 e4 e5 hcq hc; omega)]
   unfold cutB
   rw [ex_rest, e4, ex_toList]
   simp
theorem split_eq (s : ByteArray) (c : UInt8) (hs : s.size ≤ 1048576) (k : Nat) (hk : 1048580 < k) : strings_Split.f k s (⟨#[c]⟩ : ByteArray) = some (cutB s c) := by
 have hcl : s.data.toList.count c ≤ s.size := List.count_le_length
 obtain ⟨k, rfl⟩ : ∃ m, k = m + 1 := ⟨k - 1, by omega⟩
 unfold strings_Split.f strings_genSplit.f strings_Count.f byteCount Lib.countByte
 have e0 : wrap64 (((s.data.toList.count c : Nat) : Int) + 1) = ((s.data.toList.count c + 1 : Nat) : Int) := wrap_succ (by omega)
 have e1 : mn ((s.data.toList.count c + 1 : Nat) : Int) (wrap64 ((s.size : Int) + 1)) = ((s.data.toList.count c + 1 : Nat) : Int) := by
  rw [wrap_succ (by omega)]; unfold mn; rw [if_neg (by omega)]
 rw [if_neg (by decide), if_neg (fun e => absurd ((toList_nil (⟨#[c]⟩ : ByteArray)).1 e) (by show ¬ (1 = 0); omega)), if_pos (by decide), if_pos (show (⟨#[c]⟩ : ByteArray).size = 1 from rfl), Option.bind_some]
 show (strings_genSplit.j0 (k + 1) s ⟨#[c]⟩ 0 (wrap64 (((s.data.toList.count c : Nat) : Int) + 1))).bind (fun t149 => some t149) = _
 rw [e0, strings_genSplit.j0, e1, if_pos (by omega), if_pos (by omega), wrap_small (by omega) (by omega)]
 have h := genSplit_l c (s.data.toList.count c + 1) (by omega) (s.data.toList.count c) 0 s (List.replicate (((s.data.toList.count c + 1 : Nat) : Int)).toNat (⟨#[]⟩ : ByteArray)) k hs rfl (by omega) (by simp) (by omega)
 rw [show ((0 : Nat) : Int) = 0 from rfl] at h
 rw [h]
 simp
def digB (s : ByteArray) (i : Nat) : Bool := decide (48 ≤ bt s (i : Int) ∧ bt s (i : Int) ≤ 57)
def valB (s : ByteArray) : Nat → Int
 | 0 => 0
 | i + 1 => 10 * valB s i + (bt s (i : Int) - 48)
theorem valB_succ (s : ByteArray) (i : Nat) : valB s (i + 1) = 10 * valB s i + (bt s (i : Int) - 48) := rfl
def digsB (s : ByteArray) (n : Nat) : Bool := (List.range n).all (digB s)
theorem digsB_succ (s : ByteArray) (n : Nat) : digsB s (n + 1) = (digsB s n && digB s n) := by unfold digsB; rw [List.range_succ, List.all_append]; simp
theorem digsB_mono (s : ByteArray) : ∀ (d n : Nat), digsB s (n + d) = true → digsB s n = true
 | 0, n, h => h
 | d + 1, n, h => by rw [← Nat.add_assoc, digsB_succ, Bool.and_eq_true] at h; exact digsB_mono s d n h.1
theorem digsB_no (s : ByteArray) {i n : Nat} (hi : i < n) (h : digB s i = false) : digsB s n = false := by
 rcases Bool.eq_false_or_eq_true (digsB s n) with e | e
 ·have := digsB_mono s (n - (i + 1)) (i + 1) (by rw [show i + 1 + (n - (i + 1)) = n by omega]; exact e)
  rw [digsB_succ, h] at this; simp at this
 ·exact e
theorem valB_bd (s : ByteArray) : ∀ i, digsB s i = true → 0 ≤ valB s i ∧ valB s i < 10 ^ i
 | 0, _ => by simp [valB]
 | i + 1, h => by
  rw [digsB_succ, Bool.and_eq_true] at h
  have h1 := valB_bd s i h.1
  have h2 : 48 ≤ bt s (i : Int) ∧ bt s (i : Int) ≤ 57 := of_decide_eq_true h.2
  unfold valB
  rw [Int.pow_succ]
  omega
theorem valB_bd5 (s : ByteArray) (i : Nat) (hi : i ≤ 5) (h : digsB s i = true) : 0 ≤ valB s i ∧ valB s i < 100000 := by
 have := valB_bd s i h
 have h2 : (10 : Int) ^ i ≤ 100000 := by
  have : i = 0 ∨ i = 1 ∨ i = 2 ∨ i = 3 ∨ i = 4 ∨ i = 5 := by omega
  rcases this with rfl | rfl | rfl | rfl | rfl | rfl <;> decide
 omega
def okNum (s : ByteArray) : Bool := digsB s s.size && (decide (s.size ≤ 5) && (decide (1 ≤ s.size) && decide ((dg (valB s s.size).toNat).toList = s.toList)))
def numV (s : ByteArray) : Int := if s.toList = ([45] : List UInt8) then -1 else if (okNum s && decide (valB s s.size ≤ 65535)) = true then valB s s.size else -2
theorem l28Num_l (s : ByteArray) : ∀ (d i k : Nat), i + d = min s.size 5 → digsB s i = true → d + 30 < k → spec_l28Num.l0 k s (valB s i) (i : Int) = some (if (okNum s && decide (valB s s.size ≤ 65535)) = true then valB s s.size else -2) := by
 intro d
 induction d with
 | zero =>
  intro i k hi hd hk
  obtain ⟨k, rfl⟩ : ∃ m, k = m + 1 := ⟨k - 1, by omega⟩
  have hb := valB_bd5 s i (by omega) hd
  rw [spec_l28Num.l0]
  by_cases h5 : s.size ≤ 5
  ·have hsz : i = s.size := by omega
   subst hsz
   rw [if_neg (by omega)]
   unfold okNum
   rw [hd, decide_eq_true h5, Bool.true_and, Bool.true_and]
   by_cases h0 : s.size = 0
   ·rw [if_pos ((toList_nil s).2 h0), decide_eq_false (by omega), Bool.false_and, Bool.false_and, if_neg (by simp)]
   ·rw [if_neg (fun e => h0 ((toList_nil s).1 e)), decide_eq_true (show 1 ≤ s.size by omega), Bool.true_and]
    by_cases h6 : valB s s.size > 65535
    ·rw [if_pos h6, decide_eq_false (show ¬ valB s s.size ≤ 65535 by omega), Bool.and_false, if_neg (by simp)]
    ·rw [if_neg h6, decide_eq_true (show valB s s.size ≤ 65535 by omega), Bool.and_true, l16Digits_eq _ hb.1 (by omega) k (by omega), Option.bind_some]
     by_cases he : s.toList = (dg (valB s s.size).toNat).toList
     ·rw [if_pos he, if_pos (decide_eq_true he.symm)]
     ·rw [if_neg he, if_neg (by simpa using fun e => he e.symm)]
  ·have hi5 : i = 5 := by omega
   have hno : okNum s = false := by unfold okNum; rw [decide_eq_false h5]; simp
   rw [if_pos (by omega), if_pos (by omega), hno, Bool.false_and, if_neg (show ¬ (false = true) by simp)]
   by_cases h1 : bt s (i : Int) < 48
   ·rw [if_pos h1]
   ·rw [if_neg h1]
    by_cases h2 : bt s (i : Int) > 57
    ·rw [if_pos h2]
    ·rw [if_neg h2, if_pos (by omega)]
 | succ d ih =>
  intro i k hi hd hk
  obtain ⟨k, rfl⟩ : ∃ m, k = m + 1 := ⟨k - 1, by omega⟩
  have hb := valB_bd5 s i (by omega) hd
  have his : i < s.size := by omega
  have hno : digB s i = false → (if (okNum s && decide (valB s s.size ≤ 65535)) = true then valB s s.size else -2) = -2 := by
   intro h
   have : okNum s = false := by unfold okNum; rw [digsB_no s his h]; simp
   rw [this, Bool.false_and, if_neg (by simp)]
  rw [spec_l28Num.l0, if_pos (by omega), if_pos (by omega)]
  by_cases h1 : bt s (i : Int) < 48
  ·rw [if_pos h1, hno (by unfold digB; exact decide_eq_false (by omega))]
  ·rw [if_neg h1]
   by_cases h2 : bt s (i : Int) > 57
   ·rw [if_pos h2, hno (by unfold digB; exact decide_eq_false (by omega))]
   ·rw [if_neg h2, if_neg (by omega), wrap_succ (by omega), wrap_small (x := 10 * valB s i) (by omega) (by omega), wrap_small (x := bt s (i : Int)) (by omega) (by omega), wrap_small (x := 10 * valB s i + bt s (i : Int)) (by omega) (by omega), wrap_small (by omega) (by omega),
     show 10 * valB s i + bt s (i : Int) - 48 = valB s (i + 1) by rw [valB_succ]; omega]
    exact ih (i + 1) k (by omega) (by rw [digsB_succ, hd, Bool.true_and]; unfold digB; exact decide_eq_true (by omega)) (by omega)
theorem l28Num_eq (s : ByteArray) (k : Nat) (hk : 40 < k) : spec_l28Num.f k s = some (numV s) := by
 unfold spec_l28Num.f numV
 by_cases h : s.toList = ([45] : List UInt8)
 ·rw [if_pos h, if_pos h]
 ·rw [if_neg h, if_neg h]
  exact l28Num_l s (min s.size 5) 0 k (by omega) rfl (by omega)
theorem number_l (s : ByteArray) (h5 : s.size ≤ 5) (h1 : 1 ≤ s.size) : ∀ (d i k : Nat), i + d = s.size → digsB s i = true → d + 50 < k → ∃ x, impl_number.l0 k s (valB s i) (s.size : Int) (i : Int) = some (x, okNum s) ∧ (okNum s = true → x = valB s s.size) := by
 intro d
 induction d with
 | zero =>
  intro i k hi hd hk
  obtain ⟨k, rfl⟩ : ∃ m, k = m + 1 := ⟨k - 1, by omega⟩
  have hb := valB_bd5 s i (by omega) hd
  have hsz : i = s.size := by omega
  subst hsz
  refine ⟨valB s s.size, ?_, fun _ => rfl⟩
  rw [impl_number.l0, if_neg (by omega), digits_eq _ hb.1 (by omega) k (by omega), Option.bind_some]
  unfold okNum
  rw [hd, decide_eq_true h5, decide_eq_true h1, Bool.true_and, Bool.true_and, Bool.true_and, show ((dg (valB s s.size).toNat).toList == s.toList) = decide ((dg (valB s s.size).toNat).toList = s.toList) by rw [Bool.eq_iff_iff]; simp]
 | succ d ih =>
  intro i k hi hd hk
  obtain ⟨k, rfl⟩ : ∃ m, k = m + 1 := ⟨k - 1, by omega⟩
  have hb := valB_bd5 s i (by omega) hd
  have his : i < s.size := by omega
  have hno : digB s i = false → okNum s = false := by
   intro h
   unfold okNum; rw [digsB_no s his h]; simp
  rw [impl_number.l0, if_pos (by omega), if_pos (by omega), if_pos (by omega)]
  by_cases h1 : bt s (i : Int) < 48
  ·have := hno (by unfold digB; exact decide_eq_false (by omega))
   exact ⟨0, by rw [if_pos h1, this], fun h => by rw [this] at h; simp at h⟩
  ·rw [if_neg h1]
   by_cases h2 : bt s (i : Int) > 57
   ·have := hno (by unfold digB; exact decide_eq_false (by omega))
    exact ⟨0, by rw [if_pos h2, this], fun h => by rw [this] at h; simp at h⟩
   ·rw [if_neg h2, wrap_succ (by omega), wrap_small (x := 10 * valB s i) (by omega) (by omega), show (bt s (i : Int) - 48) % 256 = bt s (i : Int) - 48 by omega, wrap_small (by omega) (by omega),
     show 10 * valB s i + (bt s (i : Int) - 48) = valB s (i + 1) from (valB_succ s i).symm]
    exact ih (i + 1) k (by omega) (by rw [digsB_succ, hd, Bool.true_and]; unfold digB; exact decide_eq_true (by omega)) (by omega)
theorem number_ex (s : ByteArray) (k : Nat) (hk : 60 < k) : ∃ x, impl_number.f k s 5 = some (x, okNum s) ∧ (okNum s = true → x = valB s s.size) := by
 obtain ⟨k, rfl⟩ : ∃ m, k = m + 1 := ⟨k - 1, by omega⟩
 unfold impl_number.f
 by_cases h0 : s.size = 0
 ·have hn : okNum s = false := by unfold okNum; rw [decide_eq_false (show ¬ 1 ≤ s.size by omega)]; simp
  exact ⟨0, by rw [if_pos ((toList_nil s).2 h0), impl_number.j0, if_pos rfl, hn], fun h => by rw [hn] at h; simp at h⟩
 ·rw [if_neg (fun e => h0 ((toList_nil s).1 e)), impl_number.j0]
  by_cases h5 : s.size ≤ 5
  ·rw [decide_eq_false (show ¬ (s.size : Int) > 5 by omega), if_neg (by simp)]
   exact number_l s h5 (by omega) s.size 0 k (by omega) rfl (by omega)
  ·have hn : okNum s = false := by unfold okNum; rw [decide_eq_false h5]; simp
   rw [decide_eq_true (show (s.size : Int) > 5 by omega), if_pos rfl]
   exact ⟨0, by rw [hn], fun h => by rw [hn] at h; simp at h⟩
def fitB (i : Nat) (v : Int) : Bool := if i < 2 then decide (0 ≤ v ∧ v ≤ 99) else decide (-1 ≤ v)
def evB (s : ByteArray) : Bool := decide ((cutB s 32).length = 5) && ((List.range 5).all fun i => fitB i (numV ((cutB s 32).getD i ByteArray.empty)))
def evV (s : ByteArray) (i : Nat) : Int := if evB s = true then numV ((cutB s 32).getD i ByteArray.empty) else 0
theorem rdOf_getD (l : List ByteArray) (i : Nat) : rdOf ByteArray.empty l (i : Int) = l.getD i ByteArray.empty := by unfold rdOf; rw [Int.toNat_natCast]
theorem specEventRead_eq (s : ByteArray) (hs : s.size ≤ 1048576) (k : Nat) (hk : 1048700 < k) : spec_EventRead.f k s = some (evV s 0, evV s 1, evV s 2, evV s 3, evV s 4, evB s) := by
 unfold spec_EventRead.f
 rw [show (32 : Int) = ((32 : UInt8).toNat : Int) from rfl, l28Cut_eq s 32 hs k (by omega), Option.bind_some]
 have hev : evB s = (decide ((cutB s 32).length = 5) && (fitB 0 (numV ((cutB s 32).getD 0 ByteArray.empty)) && (fitB 1 (numV ((cutB s 32).getD 1 ByteArray.empty)) && (fitB 2 (numV ((cutB s 32).getD 2 ByteArray.empty)) && (fitB 3 (numV ((cutB s 32).getD 3 ByteArray.empty)) && fitB 4 (numV ((cutB s 32).getD 4 ByteArray.empty))))))) := by
  unfold evB; simp [List.range_succ, Bool.and_assoc]
 unfold evV
 by_cases h5 : (cutB s 32).length = 5
 ·rw [decide_eq_true h5, Bool.true_and] at hev
  rw [if_pos (by omega), if_pos (by omega), show (0 : Int) = ((0 : Nat) : Int) from rfl, rdOf_getD, l28Num_eq _ k (by omega), Option.bind_some, if_pos (by omega), show (1 : Int) = ((1 : Nat) : Int) from rfl, rdOf_getD, l28Num_eq _ k (by omega), Option.bind_some, if_pos (by omega), show (2 : Int) = ((2 : Nat) : Int) from rfl, rdOf_getD, l28Num_eq _ k (by omega), Option.bind_some, if_pos (by omega), show (3 : Int) = ((3 : Nat) : Int) from rfl, rdOf_getD, l28Num_eq _ k (by omega), Option.bind_some, if_pos (by omega), show (4 : Int) = ((4 : Nat) : Int) from rfl, rdOf_getD, l28Num_eq _ k (by omega), Option.bind_some]
  obtain ⟨k, rfl⟩ : ∃ m, k = m + 1 := ⟨k - 1, by omega⟩
  generalize numV ((cutB s 32).getD 0 ByteArray.empty) = v0 at *
  generalize numV ((cutB s 32).getD 1 ByteArray.empty) = v1 at *
  generalize numV ((cutB s 32).getD 2 ByteArray.empty) = v2 at *
  generalize numV ((cutB s 32).getD 3 ByteArray.empty) = v3 at *
  generalize numV ((cutB s 32).getD 4 ByteArray.empty) = v4 at *
  rw [hev]
  clear hev
  have f0 : fitB 0 v0 = decide (0 ≤ v0 ∧ v0 ≤ 99) := rfl
  have f1 : fitB 1 v1 = decide (0 ≤ v1 ∧ v1 ≤ 99) := rfl
  have f2 : fitB 2 v2 = decide (-1 ≤ v2) := rfl
  have f3 : fitB 3 v3 = decide (-1 ≤ v3) := rfl
  have f4 : fitB 4 v4 = decide (-1 ≤ v4) := rfl
  rw [f0, f1, f2, f3, f4]
  have i0 : spec_l1In.f v0 ((0 : Nat) : Int) 99 = some (decide (0 ≤ v0 ∧ v0 ≤ 99)) := l1In_eq _ _ _
  have i1 : spec_l1In.f v1 ((0 : Nat) : Int) 99 = some (decide (0 ≤ v1 ∧ v1 ≤ 99)) := l1In_eq _ _ _
  rw [i0, Option.bind_some]
  by_cases c0 : 0 ≤ v0 ∧ v0 ≤ 99
  ·rw [decide_eq_true c0, if_pos rfl, i1, Option.bind_some, Bool.true_and]
   by_cases c1 : 0 ≤ v1 ∧ v1 ≤ 99
   ·rw [decide_eq_true c1, if_pos rfl, Bool.true_and]
    by_cases c2 : -1 ≤ v2
    ·rw [if_neg (by omega), decide_eq_true c2, Bool.true_and]
     by_cases c3 : -1 ≤ v3
     ·rw [if_neg (by omega), decide_eq_true c3, Bool.true_and, spec_EventRead.j0]
      by_cases c4 : -1 ≤ v4
      ·rw [decide_eq_true c4, decide_eq_false (by omega), if_neg (by simp)]; rfl
      ·rw [decide_eq_false c4, decide_eq_true (by omega), if_pos rfl]; rfl
     ·rw [if_pos (by omega), decide_eq_false c3, Bool.false_and, spec_EventRead.j0, if_pos rfl]; rfl
    ·rw [if_pos (by omega), decide_eq_false c2, Bool.false_and, spec_EventRead.j0, if_pos rfl]; rfl
   ·rw [decide_eq_false c1, if_neg (by simp), Bool.false_and, spec_EventRead.j0, if_pos rfl]; rfl
  ·rw [decide_eq_false c0, if_neg (by simp), Bool.false_and, spec_EventRead.j0, if_pos rfl]; rfl
 ·have he : evB s = false := by rw [hev, decide_eq_false h5, Bool.false_and]
  rw [if_neg (by omega), he]; rfl
theorem evStep (k i : Nat) (w : ByteArray) (ws : List ByteArray) (x n0 n1 n2 n3 n4 : Int) (hx : okNum w = true → x = valB w w.size) : 
  (if w.toList = ([45] : List UInt8) then impl_EventRead.j1 (k + 1) (i : Int) (-1) true ws (ws.length : Int) (i : Int) n0 n1 n2 n3 n4 else impl_EventRead.j1 (k + 1) (i : Int) x (okNum w) ws (ws.length : Int) (i : Int) n0 n1 n2 n3 n4) =
  if fitB i (numV w) = true then impl_EventRead.l0 k ws (ws.length : Int) (wrap64 ((i : Int) + 1)) (if (i : Int) = 0 then numV w else n0) (if (i : Int) = 1 then numV w else n1) (if (i : Int) = 2 then numV w else n2) (if (i : Int) = 3 then numV w else n3) (if (i : Int) = 4 then numV w else n4) else some (0, 0, 0, 0, 0, false) := by
 unfold fitB numV
 by_cases hm : w.toList = ([45] : List UInt8)
 ·rw [if_pos hm, if_pos hm, impl_EventRead.j1]
  by_cases h2 : i < 2
  ·rw [if_pos (by omega), if_pos rfl, from_eq, Option.bind_some, if_pos h2]
  ·rw [if_neg (by omega), if_pos rfl, from_eq, Option.bind_some, if_neg h2, if_pos (show decide ((-1 : Int) ≤ -1 ∧ (-1 : Int) ≤ 65535) = true by decide), if_pos (show decide ((-1 : Int) ≤ -1) = true by decide)]
 ·rw [if_neg hm, if_neg hm, impl_EventRead.j1]
  rcases Bool.eq_false_or_eq_true (okNum w) with ho | ho
  ·have hxv := hx ho
   subst hxv
   have hb : 0 ≤ valB w w.size := by
    unfold okNum at ho; simp only [Bool.and_eq_true] at ho
    exact (valB_bd w _ ho.1).1
   rw [ho, Bool.true_and]
   by_cases h6 : valB w w.size ≤ 65535
   ·rw [if_pos (show decide (valB w w.size ≤ 65535) = true from decide_eq_true h6)]
    by_cases h2 : i < 2
    ·rw [if_pos (by omega), if_pos rfl, from_eq, Option.bind_some, if_pos h2]
    ·rw [if_neg (by omega), if_pos rfl, from_eq, Option.bind_some, if_neg h2, if_pos (decide_eq_true (by omega)), if_pos (decide_eq_true (by omega))]
   ·rw [if_neg (show ¬ decide (valB w w.size ≤ 65535) = true by simpa using h6)]
    by_cases h2 : i < 2
    ·rw [if_pos (by omega), if_pos rfl, from_eq, Option.bind_some, if_pos h2, if_neg (by rw [decide_eq_false (by omega)]; simp), if_neg (by simp)]
    ·rw [if_neg (by omega), if_pos rfl, from_eq, Option.bind_some, if_neg h2, if_neg (by rw [decide_eq_false (by omega)]; simp), if_neg (by simp)]
  ·rw [ho, Bool.false_and, if_neg (show ¬ (false = true) by simp)]
   by_cases h2 : i < 2
   ·rw [if_pos (by omega), if_neg (show ¬ (false = true) by simp), if_pos h2, if_neg (by simp)]
   ·rw [if_neg (by omega), if_neg (show ¬ (false = true) by simp), if_neg h2, if_neg (by simp)]
theorem evRound (k i : Nat) (ws : List ByteArray) (h5 : ws.length = 5) (hi : i < 5) (hk : 70 < k) (n0 n1 n2 n3 n4 : Int) : impl_EventRead.l0 (k + 2) ws (ws.length : Int) (i : Int) n0 n1 n2 n3 n4 =
  if fitB i (numV (ws.getD i ByteArray.empty)) = true then impl_EventRead.l0 k ws (ws.length : Int) (((i + 1 : Nat)) : Int) (if (i : Int) = 0 then numV (ws.getD i ByteArray.empty) else n0) (if (i : Int) = 1 then numV (ws.getD i ByteArray.empty) else n1) (if (i : Int) = 2 then numV (ws.getD i ByteArray.empty) else n2) (if (i : Int) = 3 then numV (ws.getD i ByteArray.empty) else n3) (if (i : Int) = 4 then numV (ws.getD i ByteArray.empty) else n4) else some (0, 0, 0, 0, 0, false) := by
 obtain ⟨x, e, hx⟩ := number_ex (ws.getD i ByteArray.empty) (k + 1) (by omega)
 rw [impl_EventRead.l0, if_pos (by omega), if_pos (by omega), if_pos (by omega), rdOf_getD, e, Option.bind_some]
 have h := evStep k i (ws.getD i ByteArray.empty) ws x n0 n1 n2 n3 n4 hx
 rw [wrap_succ (by omega)] at h
 exact h
theorem implEventRead_eq (s : ByteArray) (hs : s.size ≤ 1048576) (k : Nat) (hk : 1048700 < k) : impl_EventRead.f k s = some (evV s 0, evV s 1, evV s 2, evV s 3, evV s 4, evB s) := by
 unfold impl_EventRead.f
 rw [split_eq s 32 hs k (by omega), Option.bind_some]
 have hev : evB s = (decide ((cutB s 32).length = 5) && (fitB 0 (numV ((cutB s 32).getD 0 ByteArray.empty)) && (fitB 1 (numV ((cutB s 32).getD 1 ByteArray.empty)) && (fitB 2 (numV ((cutB s 32).getD 2 ByteArray.empty)) && (fitB 3 (numV ((cutB s 32).getD 3 ByteArray.empty)) && fitB 4 (numV ((cutB s 32).getD 4 ByteArray.empty))))))) := by
  unfold evB; simp [List.range_succ, Bool.and_assoc]
 unfold evV
 by_cases h5 : (cutB s 32).length = 5
 ·rw [decide_eq_true h5, Bool.true_and] at hev
  rw [if_pos (by omega), hev]
  obtain ⟨k, rfl⟩ : ∃ m, k = m + 11 := ⟨k - 11, by omega⟩
  generalize hw : cutB s 32 = ws at *
  have z : ((0 : Nat) : Int) = 0 := rfl
  have R := fun (q i : Nat) (hi : i < 5) (hq : 70 < q) (n0 n1 n2 n3 n4 : Int) => evRound q i ws h5 hi hq n0 n1 n2 n3 n4
  have r0 := R (k + 9) 0 (by omega) (by omega) 0 0 0 0 0
  rw [show ((0 : Nat) : Int) = 0 from rfl] at r0
  rw [r0]
  cases c0 : fitB 0 (numV (ws.getD 0 ByteArray.empty)) with
  | false => rw [if_neg (by simp), Bool.false_and]; rfl
  | true =>
   rw [if_pos rfl, Bool.true_and, R (k + 7) 1 (by omega) (by omega)]
   cases c1 : fitB 1 (numV (ws.getD 1 ByteArray.empty)) with
   | false => rw [if_neg (by simp), Bool.false_and]; rfl
   | true =>
    rw [if_pos rfl, Bool.true_and, R (k + 5) 2 (by omega) (by omega)]
    cases c2 : fitB 2 (numV (ws.getD 2 ByteArray.empty)) with
    | false => rw [if_neg (by simp), Bool.false_and]; rfl
    | true =>
     rw [if_pos rfl, Bool.true_and, R (k + 3) 3 (by omega) (by omega)]
     cases c3 : fitB 3 (numV (ws.getD 3 ByteArray.empty)) with
     | false => rw [if_neg (by simp), Bool.false_and]; rfl
     | true =>
      rw [if_pos rfl, Bool.true_and, R (k + 1) 4 (by omega) (by omega)]
      cases c4 : fitB 4 (numV (ws.getD 4 ByteArray.empty)) with
      | false => rw [if_neg (by simp)]; rfl
      | true =>
       rw [if_pos rfl, impl_EventRead.l0, if_neg (by omega)]
       simp
 ·have he : evB s = false := by rw [hev, decide_eq_false h5, Bool.false_and]
  rw [if_neg (by omega), he]; rfl
def evS (p : ByteArray) : S31 := ⟨evV p 0, evV p 1, evV p 2, evV p 3, evV p 4⟩
def runT : List S31 → List ByteArray → List S31 × Bool
 | _, [] => ([], false)
 | out, [p] => if p.size = 0 then (out, true) else ([], false)
 | out, p :: q :: r => if evB p = true then (if out.length = 60 then ([], false) else runT (out ++ [evS p]) (q :: r)) else ([], false)
theorem runT_len : ∀ (ps : List ByteArray) (out : List S31), out.length ≤ 60 → (runT out ps).1.length ≤ 60
 | [], out, h => by simp [runT]
 | [p], out, h => by unfold runT; split <;> simp [h]
 | p :: q :: r, out, h => by
  unfold runT
  split
  ·split
   ·simp
   ·exact runT_len (q :: r) _ (by simp; omega)
  ·simp
theorem runT_bad : ∀ (ps : List ByteArray) (out : List S31) (hn : ps ≠ []), out.length ≤ 60 → ((ps.getLast hn).size ≠ 0 ∨ 61 < out.length + ps.length) → runT out ps = ([], false)
 | [p], out, _, h, hb => by
  unfold runT
  rcases hb with hb | hb
  ·rw [if_neg (by simpa using hb)]
  ·simp at hb; omega
 | p :: q :: r, out, _, h, hb => by
  unfold runT
  split
  ·split
   ·rfl
   ·refine runT_bad (q :: r) _ (by simp) (by simp; omega) ?_
    rcases hb with hb | hb
    ·left; simpa using hb
    ·right; simp at hb ⊢; omega
  ·rfl
theorem cutA_mem (c : UInt8) : ∀ (l acc p : List UInt8), p ∈ cutA c acc l → p.length ≤ acc.length + l.length
 | [], acc, p, h => by simp [cutA] at h; subst h; simp
 | b :: l, acc, p, h => by
  rw [cutA_cons] at h
  split at h
  ·rcases List.mem_cons.1 h with rfl | h
   ·simp
   ·have := cutA_mem c l [] p h; simp at this ⊢; omega
  ·have := cutA_mem c l (acc ++ [b]) p h; simp at this ⊢; omega
theorem byB_size (l : List UInt8) : (byB l).size = l.length := by unfold byB; simp [ByteArray.size]
theorem cutB_mem (s p : ByteArray) (c : UInt8) (h : p ∈ cutB s c) : p.size ≤ s.size := by
 obtain ⟨l, hl, rfl⟩ := List.mem_map.1 h
 rw [byB_size]
 have := cutA_mem c _ _ _ hl
 rw [size_list] at this; simpa using this
theorem cutB_len (s : ByteArray) (c : UInt8) : (cutB s c).length = s.data.toList.count c + 1 := by unfold cutB; rw [List.length_map, cutA_len]
theorem cutB_ne (s : ByteArray) (c : UInt8) : cutB s c ≠ [] := by intro h; have := cutB_len s c; rw [h] at this; simp at this
theorem spec_round (ps : List ByteArray) (hs : ∀ p ∈ ps, p.size ≤ 1048576) (hl : ps.length ≤ 61) (hn : ps ≠ []) (h0 : (ps.getLast hn).size = 0) : ∀ (d i : Nat) (out : List S31) (k : Nat), i + d + 1 = ps.length → out.length = i → d + 1048800 < k →
  spec_TraceRead.l0 k ps out (i : Int) = some (runT out (ps.drop i))
 | 0, i, out, k, hi, ho, hk => by
  obtain ⟨k, rfl⟩ : ∃ m, k = m + 1 := ⟨k - 1, by omega⟩
  have hd : ps.drop i = [ps.getLast hn] := by
   rw [List.drop_eq_getElem_cons (by omega), List.drop_eq_nil_of_le (by omega), List.getLast_eq_getElem]; congr 1
   congr 1; omega
  rw [spec_TraceRead.l0, wrap_succ (by omega), if_neg (by omega), hd]
  unfold runT
  rw [if_pos h0]
 | d + 1, i, out, k, hi, ho, hk => by
  obtain ⟨k, rfl⟩ : ∃ m, k = m + 1 := ⟨k - 1, by omega⟩
  have hil : i < ps.length := by omega
  have hd : ps.drop i = ps[i] :: ps[i + 1] :: ps.drop (i + 1 + 1) := by
   rw [List.drop_eq_getElem_cons hil, List.drop_eq_getElem_cons (by omega)]
  have hd1 : ps.drop (i + 1) = ps[i + 1] :: ps.drop (i + 1 + 1) := List.drop_eq_getElem_cons (by omega)
  have hg : ps.getD i ByteArray.empty = ps[i] := by simp [List.getD_eq_getElem?_getD, hil]
  rw [spec_TraceRead.l0, wrap_succ (by omega), if_pos (by omega), if_pos (by omega), if_pos (by omega), rdOf_getD, hg, specEventRead_eq _ (hs _ (List.getElem_mem hil)) k (by omega), Option.bind_some, hd]
  unfold runT
  dsimp only
  cases he : evB ps[i] with
  | false => rw [if_neg (by simp), if_neg (by simp)]
  | true =>
   rw [if_pos rfl, if_pos rfl, if_pos (by omega), if_neg (by omega), ← hd1]
   exact spec_round ps hs hl hn h0 d (i + 1) _ k (by omega) (by simp [ho]) (by omega)
theorem specTraceRead_eq (s : ByteArray) (hs : s.size ≤ 1048576) (k : Nat) (hk : 1049000 < k) : spec_TraceRead.f k s = some (runT [] (cutB s 10)) := by
 have hn := cutB_ne s 10
 have hlen := cutB_len s 10
 have hcl : s.data.toList.count 10 ≤ s.size := List.count_le_length
 have hm : ∀ p ∈ cutB s 10, p.size ≤ 1048576 := fun p hp => Nat.le_trans (cutB_mem s p 10 hp) hs
 unfold spec_TraceRead.f
 rw [show (10 : Int) = ((10 : UInt8).toNat : Int) from rfl, l28Cut_eq s 10 hs k (by omega), Option.bind_some, Option.bind_some]
 generalize cutB s 10 = ps at *
 have e1 : wrap64 ((ps.length : Int) - 1) = ((ps.length - 1 : Nat) : Int) := by rw [wrap_small (by omega) (by omega)]; omega
 have hg : ps.getD (ps.length - 1) ByteArray.empty = ps.getLast hn := by
  rw [List.getLast_eq_getElem]; simp [List.getD_eq_getElem?_getD, show ps.length - 1 < ps.length by omega]
 rw [e1, if_pos (by omega), if_pos (by omega), rdOf_getD, hg]
 obtain ⟨k, rfl⟩ : ∃ m, k = m + 1 := ⟨k - 1, by omega⟩
 by_cases h0 : (ps.getLast hn).size = 0
 ·rw [if_pos ((toList_nil _).2 h0), spec_TraceRead.j0]
  by_cases h61 : ps.length ≤ 61
  ·rw [decide_eq_false (by omega), if_neg (by simp)]
   have := spec_round ps hm h61 hn h0 (ps.length - 1) 0 [] k (by omega) rfl (by omega)
   rw [List.drop_zero, show ((0 : Nat) : Int) = 0 from rfl] at this
   exact this
  ·rw [decide_eq_true (by omega), if_pos rfl, runT_bad ps [] hn (by simp) (.inr (by simp; omega))]
 ·rw [if_neg (fun e => h0 ((toList_nil _).1 e)), spec_TraceRead.j0, if_pos rfl, runT_bad ps [] hn (by simp) (.inl h0)]
theorem cut_no (s : ByteArray) (c : UInt8) (h : Lib.indexByte s.data.toList c = -1) : strings_Cut.f s (⟨#[c]⟩ : ByteArray) = some (s, (⟨#[]⟩ : ByteArray), false) := by
 unfold strings_Cut.f stringslite_Cut.f stringslite_Index.f
 rw [if_pos (show (⟨#[c]⟩ : ByteArray).size = 1 from rfl), Option.bind_some, show byteIdx s ((⟨#[c]⟩ : ByteArray).data.getD 0 0) = -1 from h, if_neg (by decide), Option.bind_some]
theorem cut_yes (s : ByteArray) (c : UInt8) (m : Nat) (hs : s.size ≤ 1048576) (hm : m < s.size) (h : Lib.indexByte s.data.toList c = (m : Int)) : strings_Cut.f s (⟨#[c]⟩ : ByteArray) = some (s.extract 0 m, s.extract (m + 1) s.size, true) := by
 have w1 := wrap_one c m (by omega)
 unfold strings_Cut.f stringslite_Cut.f stringslite_Index.f
 rw [if_pos (show (⟨#[c]⟩ : ByteArray).size = 1 from rfl), Option.bind_some, show byteIdx s ((⟨#[c]⟩ : ByteArray).data.getD 0 0) = (m : Int) from h]
 clear h
 rw [if_pos (by omega), if_pos (by omega), if_pos (by omega), w1, if_pos (by omega), if_pos (by omega), Option.bind_some, Int.toNat_natCast, Int.toNat_natCast]
theorem ex_front (s : ByteArray) (m : Nat) (hm : m ≤ s.size) : (s.extract 0 m).size = m := by
 rw [← size_list, ex_toList]; show (List.drop 0 (List.take m s.data.toList)).length = m
 rw [List.drop_zero, List.length_take, size_list]; omega
theorem impl_round : ∀ (q : Nat) (s : ByteArray) (out : List S31) (k : Nat), s.size ≤ 1048576 → s.data.toList.count 10 = q → out.length ≤ 60 → q + 1048800 < k → impl_TraceRead.l0 k s out = some (runT out (cutB s 10)) := by
 intro q
 induction q with
 | zero =>
  intro s out k hs hc ho hk
  obtain ⟨k, rfl⟩ : ∃ m, k = m + 1 := ⟨k - 1, by clear hc; omega⟩
  rcases idx_cut 10 s.data.toList with ⟨e1, _, e⟩ | ⟨m, _, _, e, _⟩
  ·have hcut : cutB s 10 = [s] := by unfold cutB; rw [e]; rfl
   rw [impl_TraceRead.l0, hcut]
   unfold runT
   by_cases h0 : s.size = 0
   ·rw [if_pos ((toList_nil s).2 h0), if_pos h0]
   ·rw [if_neg (fun x => h0 ((toList_nil s).1 x)), if_neg h0, cut_no s 10 e1, Option.bind_some, implEventRead_eq s hs k (by clear hc e1; omega), Option.bind_some, if_neg (by simp)]
  ·rw [hc] at e; cases e
 | succ q ih =>
  intro s out k hs hc ho hk
  obtain ⟨k, rfl⟩ : ∃ m, k = m + 1 := ⟨k - 1, by clear hc; omega⟩
  rcases idx_cut 10 s.data.toList with ⟨_, e, _⟩ | ⟨m, e1, e2, e3, e4⟩
  ·rw [hc] at e; cases e
  ·have hcq : (s.data.toList.drop (m + 1)).count 10 = q := Nat.succ.inj (e3.symm.trans hc)
   have hm : m < s.size := e2
   have hcut : cutB s 10 = s.extract 0 m :: cutB (s.extract (m + 1) s.size) 10 := by
    unfold cutB
    rw [ex_rest, e4, ex_toList]; simp
   have hx := cut_yes s 10 m hs hm e1
   have hne := cutB_ne (s.extract (m + 1) s.size) 10
   have hih := fun out h => ih (s.extract (m + 1) s.size) out k (ex_size s m hs) (by rw [ex_rest]; exact hcq) h (by clear hc e1 e2 e3 e4 hcq hcut hx; omega)
   have hf := ex_front s m (Nat.le_of_lt hm)
   clear e1 e2 e3 e4 hc hcq
   rw [impl_TraceRead.l0, hcut, if_neg (fun x => absurd ((toList_nil s).1 x) (by omega)), hx, Option.bind_some]
   dsimp only
   rw [implEventRead_eq (s.extract 0 m) (by omega) k (by omega), Option.bind_some, if_pos rfl]
   cases hr : cutB (s.extract (m + 1) s.size) 10 with
   | nil => exact absurd hr hne
   | cons b r =>
    unfold runT
    dsimp only
    cases he : evB (s.extract 0 m) with
    | false => rw [if_neg (by simp), if_neg (by simp)]
    | true =>
     rw [if_pos rfl, if_pos rfl]
     by_cases h60 : out.length = 60
     ·rw [if_pos (by omega), if_pos h60]
     ·rw [if_neg (by omega), if_neg h60, if_pos (by omega)]
      have := hih (out ++ [evS (s.extract 0 m)]) (by simp; omega)
      rw [hr] at this
      exact this
theorem implTraceRead_eq (s : ByteArray) (hs : s.size ≤ 1048576) (k : Nat) (hk : 2200000 < k) : impl_TraceRead.f k s = some (runT [] (cutB s 10)) := by
 have hcl : s.data.toList.count 10 ≤ s.size := List.count_le_length
 exact impl_round _ s [] k hs rfl (by simp) (by omega)
theorem and_range (x : Int) (m : Nat) (hm : m < 2 ^ 62) : 0 ≤ Go.bits .and .i64 x (m : Int) ∧ Go.bits .and .i64 x (m : Int) ≤ (m : Int) := by
 have h : (BitVec.ofInt 64 x &&& BitVec.ofInt 64 (m : Int)).toNat ≤ m := by
  rw [BitVec.toNat_and]
  refine Nat.le_trans Nat.and_le_right ?_
  rw [BitVec.ofInt_natCast, BitVec.toNat_ofNat]
  exact Nat.mod_le _ _
 have e : Go.bits .and .i64 x (m : Int) = (((BitVec.ofInt 64 x &&& BitVec.ofInt 64 (m : Int)).toNat : Nat) : Int) := by
  show IntKind.i64.wrap (((BitVec.ofInt 64 x &&& BitVec.ofInt 64 (m : Int)).toNat : Nat) : Int) = _
  exact wraps_i64 _ (by omega) (by omega)
 rw [e]; omega
def curOk (c : List Int) (i : Int) : Prop := c.length ≤ 1048576 ∧ 0 ≤ i ∧ i ≤ (c.length : Int)
theorem l1New_ex (c : List Int) (hc : c.length ≤ 1048576) (k : Nat) (hk : 4010 < k) : ∃ i s, spec_l1New.f k c = some (c, i, s) ∧ curOk c i := by
 unfold spec_l1New.f
 have h : ∀ (k j : Nat) (s : Int), j ≤ 4000 → 4000 < j + k → ∃ i s', spec_l1New.l0 k c s (j : Int) = some (c, i, s') ∧ curOk c i := by
  intro k
  induction k with
  | zero => intro j s h1 h2; omega
  | succ k ih =>
   intro j s h1 h2
   rw [spec_l1New.l0]
   by_cases h : (j : Int) < (c.length : Int)
   ·rw [if_pos h]
    by_cases h' : (j : Int) < 4000
    ·rw [if_pos h', if_pos (by omega), wrap_succ (by omega)]; exact ih _ _ (by omega) (by omega)
    ·rw [if_neg h']; exact ⟨_, _, rfl, hc, by omega, by omega⟩
   ·rw [if_neg h]; exact ⟨_, _, rfl, hc, by omega, by omega⟩
 exact h k 0 _ (by omega) (by omega)
theorem l1Byte_ex (c : List Int) (i s : Int) (h : curOk c i) : ∃ b i' s', spec_l1Byte.f c i s = some (b, i', s') ∧ 0 ≤ b ∧ b ≤ 255 ∧ curOk c i' := by
 unfold spec_l1Byte.f
 obtain ⟨h1, h2, h3⟩ := h
 by_cases hl : i < (c.length : Int)
 ·rw [if_pos hl, if_pos h2]
  have hr := fun x => and_range x 255 (by decide)
  exact ⟨_, _, _, rfl, (hr _).1, (hr _).2, h1, by unfold wrap64; omega, by unfold wrap64; omega⟩
 ·rw [if_neg hl]
  have hr := fun x => and_range x 255 (by decide)
  exact ⟨_, _, _, rfl, (hr _).1, (hr _).2, h1, h2, h3⟩
theorem l1Below_ex (c : List Int) (i s : Int) (h : curOk c i) (n : Int) (hn : 0 < n) (hb : n ≤ 4294967296) : ∃ v i' s', spec_l1Below.f c i s n = some (v, i', s') ∧ 0 ≤ v ∧ v < n ∧ curOk c i' := by
 unfold spec_l1Below.f
 rw [if_neg (by omega)]
 by_cases hs : n ≤ 256
 ·obtain ⟨b, i1, s1, e, h0, h1, hc⟩ := l1Byte_ex c i s h
  rw [if_pos hs, e, Option.bind_some, if_neg (by omega)]
  exact ⟨_, _, _, rfl, Int.tmod_nonneg _ h0, Int.tmod_lt_of_pos _ hn, hc⟩
 ·obtain ⟨b1, i1, s1, e1, p1, q1, c1⟩ := l1Byte_ex c i s h
  obtain ⟨b2, i2, s2, e2, p2, q2, c2⟩ := l1Byte_ex c i1 s1 c1
  obtain ⟨b3, i3, s3, e3, p3, q3, c3⟩ := l1Byte_ex c i2 s2 c2
  obtain ⟨b4, i4, s4, e4, p4, q4, c4⟩ := l1Byte_ex c i3 s3 c3
  rw [if_neg hs]
  simp only [e1, e2, e3, e4, Option.bind_some]
  rw [if_neg (by omega)]
  exact ⟨_, _, _, rfl, Int.tmod_nonneg _ (by unfold wrap64; omega), Int.tmod_lt_of_pos _ hn, c4⟩
theorem l1Once_ex (c : List Int) (i s : Int) (h : curOk c i) (n : Int) (hn : 0 < n) (hb : n ≤ 4294967296) : ∃ v i' s', spec_l1Once.f c i s n = some (v, i', s') ∧ curOk c i' := by
 unfold spec_l1Once.f
 obtain ⟨v, i1, s1, e, _, _, hc⟩ := l1Below_ex c i s h n hn hb
 rw [e, Option.bind_some]
 exact ⟨_, _, _, rfl, hc⟩
theorem l1PickInt_ex (c : List Int) (i s : Int) (h : curOk c i) (l : List Int) (h0 : 0 < l.length) (h1 : l.length ≤ 1000) : ∃ v i' s', spec_l1PickInt.f c i s l = some (v, i', s') ∧ v ∈ l ∧ curOk c i' := by
 unfold spec_l1PickInt.f
 obtain ⟨v, i1, s1, e, p, q, hc⟩ := l1Below_ex c i s h (l.length : Int) (by omega) (by omega)
 rw [e, Option.bind_some, if_pos p, if_pos q]
 refine ⟨_, _, _, rfl, ?_, hc⟩
 obtain ⟨j, rfl⟩ : ∃ j : Nat, v = (j : Int) := ⟨v.toNat, by omega⟩
 exact rd_mem l j (by omega)
theorem l8Has_ex (o : Int) (h0 : 1 ≤ o) (h1 : o ≤ 10) : ∃ v, spec_l8Has.f o = some v := by
 unfold spec_l8Has.f
 rw [l1In_eq, decide_eq_true ⟨h0, h1⟩, Option.bind_some, if_pos rfl, Option.bind_some, if_pos (by omega), if_pos (by simp; omega)]
 exact ⟨_, rfl⟩
theorem drawIns_j1 (x : Int) (c : List Int) (i s : Int) (h : curOk c i) (o r a b n : Int) (k : Nat) : ∃ o' r' a' b' n' i' s', spec_l8DrawIns.j1 (k + 1) x c i s o r a b n = some (o', r', a', b', n', i', s') ∧ curOk c i' := by
 rw [spec_l8DrawIns.j1]
 obtain ⟨v, i1, s1, e1, _, _, c1⟩ := l1Below_ex c i s h 4 (by omega) (by omega)
 obtain ⟨v2, i2, s2, e2, _, c2⟩ := l1PickInt_ex c i s h [0, 1, 2, 4, 8, 9, 12, 20, 23] (by simp) (by simp)
 obtain ⟨v3, i3, s3, e3, _, c3⟩ := l1PickInt_ex c i1 s1 c1 [0, 1, 2, 4, 8, 9, 12, 20, 23] (by simp) (by simp)
 by_cases h1 : Go.bits .and .i64 x 4 = 0
 ·rw [if_pos h1]
  by_cases h2 : Go.bits .and .i64 x 8 = 0
  ·rw [if_pos h2]; exact ⟨_, _, _, _, _, _, _, rfl, h⟩
  ·rw [if_neg h2, e2, Option.bind_some]; exact ⟨_, _, _, _, _, _, _, rfl, c2⟩
 ·rw [if_neg h1, e1, Option.bind_some]
  by_cases h2 : Go.bits .and .i64 x 8 = 0
  ·rw [if_pos h2]; exact ⟨_, _, _, _, _, _, _, rfl, c1⟩
  ·rw [if_neg h2]
   simp only [e3, Option.bind_some]; exact ⟨_, _, _, _, _, _, _, rfl, c3⟩
theorem drawIns_j0 (x : Int) (c : List Int) (i s : Int) (h : curOk c i) (o r a b n : Int) (k : Nat) : ∃ o' r' a' b' n' i' s', spec_l8DrawIns.j0 (k + 2) x c i s o r a b n = some (o', r', a', b', n', i', s') ∧ curOk c i' := by
 rw [spec_l8DrawIns.j0]
 obtain ⟨v, i1, s1, e1, _, _, c1⟩ := l1Below_ex c i s h 4 (by omega) (by omega)
 by_cases h1 : Go.bits .and .i64 x 2 = 0
 ·rw [if_pos h1]; exact drawIns_j1 x c i s h o r a b n k
 ·rw [if_neg h1, e1, Option.bind_some]; exact drawIns_j1 x c i1 s1 c1 o r v b n k
theorem drawIns_ex (c : List Int) (i s : Int) (h : curOk c i) (k : Nat) (hk : 2 ≤ k) : ∃ o r a b n i' s', spec_l8DrawIns.f k c i s = some (o, r, a, b, n, i', s') ∧ curOk c i' := by
 obtain ⟨k, rfl⟩ : ∃ m, k = m + 2 := ⟨k - 2, by omega⟩
 unfold spec_l8DrawIns.f
 obtain ⟨o, i1, s1, e1, ho, c1⟩ := l1PickInt_ex c i s h [1, 1, 2, 3, 3, 4, 4, 5, 5, 5, 6, 6, 7, 8, 9, 10] (by simp) (by simp)
 have ho' : 1 ≤ o ∧ o ≤ 10 := by simp at ho; omega
 obtain ⟨x, ex⟩ := l8Has_ex o ho'.1 ho'.2
 rw [e1, Option.bind_some]
 simp only [ex, Option.bind_some]
 by_cases h1 : Go.bits .and .i64 x 1 = 0
 ·rw [if_pos h1]; exact drawIns_j0 x c i1 s1 c1 o 0 0 0 0 k
 ·obtain ⟨v, i2, s2, e2, _, _, c2⟩ := l1Below_ex c i1 s1 c1 4 (by omega) (by omega)
  rw [if_neg h1, e2, Option.bind_some]; exact drawIns_j0 x c i2 s2 c2 o v 0 0 0 k
def opV (r : List Int) (pc st : Int) (o i a b n got : Int) : List Int × Int × Int × Int :=
 if o = 1 then (r.set i.toNat n, (pc + 1) % 24, st, -1)
 else if o = 2 then (r.set i.toNat ((rd r a + rd r b) % 65536), (pc + 1) % 24, st, -1)
 else if o = 10 then (r.set i.toNat ((rd r a - rd r b) % 65536), (pc + 1) % 24, st, -1)
 else if o = 3 then (r.set i.toNat ((rd r a + n) % 65536), (pc + 1) % 24, st, -1)
 else if o = 4 then (r.set i.toNat got, (pc + 1) % 24, st, -1)
 else if o = 5 then (r, (pc + 1) % 24, st, rd r b)
 else if o = 6 then (r.set i.toNat got, (pc + 1) % 24, st, (got + rd r b) % 65536)
 else if o = 7 then (if rd r a = 0 then (r, n % 24, st, -1) else (r, (pc + 1) % 24, st, -1))
 else if o = 8 then (r, n % 24, st, -1)
 else if o = 9 then (r, pc, 1, -1)
 else (r, (pc + 1) % 24, st, -1)
def workV (r : List Int) (pc st : Int) (o i a b n got : Int) : List Int × Int × Int × Int :=
 if hartB r pc st = true ∧ st = 0 ∧ (0 ≤ got ∧ got ≤ 65535) then (if insOkB o i a b n = true then opV r pc st o i a b n got else (r, pc, 2, -1)) else (r, pc, st, -1)
theorem hartB_parts {r : List Int} {p s : Int} (h : hartB r p s = true) : r.length = 4 ∧ (∀ x, x ∈ r → 0 ≤ x ∧ x ≤ 65535) ∧ (0 ≤ p ∧ p ≤ 23) ∧ (0 ≤ s ∧ s ≤ 2) := by
 have l := hartB_len h
 unfold hartB at h; rw [Bool.and_eq_true, Bool.and_eq_true] at h
 exact ⟨l, fun x hx => wordsB_mem h.1 x hx, of_decide_eq_true h.2.1, of_decide_eq_true h.2.2⟩
theorem rd_word {r : List Int} (hw : ∀ x, x ∈ r → 0 ≤ x ∧ x ≤ 65535) (i : Int) : 0 ≤ rd r i ∧ rd r i ≤ 65535 := by
 unfold rd
 rw [List.getD_eq_getElem?_getD]
 cases h : r[i.toNat]? with
 | none => simp
 | some x => exact hw x (List.mem_of_getElem? h)
def decodeB (w : Int) : Bool := decide (0 ≤ w ∧ w ≤ 65535) && insOkB (w % 16) (w / 16 % 4) (w / 64 % 4) (w / 256 % 4) (w / 1024)
def decodeV (w : Int) : Int × Int × Int × Int × Int × Bool := if decodeB w = true then (w % 16, w / 16 % 4, w / 64 % 4, w / 256 % 4, w / 1024, true) else (0, 0, 0, 0, 0, false)
def targetV (o i a b n : Int) (r : List Int) : Int := if insOkB o i a b n = true ∧ (o = 4 ∨ o = 5 ∨ o = 6) ∧ r.length = 4 then wrap64 (rd r a + n) % 24 else -1
abbrev Hh := S80
def hB (h : Hh) : Bool := hartB h.f0 h.f1 h.f2
def gotV (m : List Int) (h : Hh) : Int := if 0 ≤ targetV (decodeV (rd m h.f1)).1 (decodeV (rd m h.f1)).2.1 (decodeV (rd m h.f1)).2.2.1 (decodeV (rd m h.f1)).2.2.2.1 (decodeV (rd m h.f1)).2.2.2.2.1 h.f0 then rd m (targetV (decodeV (rd m h.f1)).1 (decodeV (rd m h.f1)).2.1 (decodeV (rd m h.f1)).2.2.1 (decodeV (rd m h.f1)).2.2.2.1 (decodeV (rd m h.f1)).2.2.2.2.1 h.f0) else 0
def tgtV (m : List Int) (h : Hh) : Int := targetV (decodeV (rd m h.f1)).1 (decodeV (rd m h.f1)).2.1 (decodeV (rd m h.f1)).2.2.1 (decodeV (rd m h.f1)).2.2.2.1 (decodeV (rd m h.f1)).2.2.2.2.1 h.f0
def wkV (m : List Int) (h : Hh) : List Int × Int × Int × Int := workV h.f0 h.f1 h.f2 (decodeV (rd m h.f1)).1 (decodeV (rd m h.f1)).2.1 (decodeV (rd m h.f1)).2.2.1 (decodeV (rd m h.f1)).2.2.2.1 (decodeV (rd m h.f1)).2.2.2.2.1 (gotV m h)
def stepV (m : List Int) (h : Hh) : List Int × Hh := (if 0 ≤ (wkV m h).2.2.2 then m.set (tgtV m h).toNat (wkV m h).2.2.2 else m, ⟨(wkV m h).1, (wkV m h).2.1, (wkV m h).2.2.1⟩)
theorem tgt_range (o i a b n : Int) (r : List Int) : targetV o i a b n r = -1 ∨ 0 ≤ targetV o i a b n r ∧ targetV o i a b n r ≤ 23 := by
 unfold targetV
 by_cases h : insOkB o i a b n = true ∧ (o = 4 ∨ o = 5 ∨ o = 6) ∧ r.length = 4
 ·rw [if_pos h]; right; omega
 ·rw [if_neg h]; left; rfl
theorem put_tgt {r : List Int} {pc st o i a b n got : Int} (h : 0 ≤ (workV r pc st o i a b n got).2.2.2) : 0 ≤ targetV o i a b n r := by
 unfold workV at h
 by_cases c : hartB r pc st = true ∧ st = 0 ∧ (0 ≤ got ∧ got ≤ 65535)
 ·rw [if_pos c] at h
  by_cases hi : insOkB o i a b n = true
  ·rw [if_pos hi] at h
   have hl := hartB_len c.1
   unfold targetV
   by_cases c5 : o = 5
   ·rw [if_pos ⟨hi, .inr (.inl c5), hl⟩]; omega
   ·by_cases c6 : o = 6
    ·rw [if_pos ⟨hi, .inr (.inr c6), hl⟩]; omega
    ·exfalso
     unfold opV at h
     rw [if_neg c5, if_neg c6] at h
     revert h
     split
     ·simp
     split
     ·simp
     split
     ·simp
     split
     ·simp
     split
     ·simp
     split
     ·split <;> simp
     split
     ·simp
     split <;> simp
  ·rw [if_neg hi] at h; simp at h
 ·rw [if_neg c] at h; simp at h
theorem rdH (l : List Hh) (i : Nat) (h : i < l.length) : rd_T80 l (i : Int) = l[i] := by
 unfold rd_T80; simp [List.getD, h]
def shortH (l : List Hh) : Prop := ∀ h, h ∈ l → h.f0.length ≤ 2097152
def goB (h : Hh) : Bool := hB h && (h.f2 == 0)
def mayGo (hs : List Hh) (i : Int) : Prop := 0 ≤ i ∧ i < (hs.length : Int) ∧ goB (rd_T80 hs i) = true
instance (hs : List Hh) (i : Int) : Decidable (mayGo hs i) := by unfold mayGo; infer_instance
def nextV (s : List Int × List Hh) (i : Int) : List Int × List Hh := if mayGo s.2 i then ((stepV s.1 (rd_T80 s.2 i)).1, s.2.set i.toNat (stepV s.1 (rd_T80 s.2 i)).2) else s
def runV (m : List Int) (hs : List Hh) (order : List Int) : List Int × List Hh := order.foldl nextV (m, hs)
theorem stepV_len (m : List Int) (h : Hh) : (stepV m h).1.length = m.length := by
 unfold stepV; dsimp only; split
 ·rw [List.length_set]
 ·rfl
theorem nextV_len (s : List Int × List Hh) (i : Int) : (nextV s i).1.length = s.1.length ∧ (nextV s i).2.length = s.2.length := by
 unfold nextV; split
 ·exact ⟨stepV_len _ _, by rw [List.length_set]⟩
 ·exact ⟨rfl, rfl⟩
theorem stepV_short (m : List Int) (h : Hh) (hl : h.f0.length ≤ 2097152) : (stepV m h).2.f0.length ≤ 2097152 := by
 unfold stepV wkV; dsimp only
 unfold workV; split
 ·split
  ·unfold opV
   split
   ·rw [List.length_set]; exact hl
   split
   ·rw [List.length_set]; exact hl
   split
   ·rw [List.length_set]; exact hl
   split
   ·rw [List.length_set]; exact hl
   split
   ·rw [List.length_set]; exact hl
   split
   ·exact hl
   split
   ·rw [List.length_set]; exact hl
   split
   ·split <;> exact hl
   split
   ·exact hl
   split <;> exact hl
  ·exact hl
 ·exact hl
theorem rdH_mem (l : List Hh) (i : Int) (h0 : 0 ≤ i) (h1 : i < (l.length : Int)) : rd_T80 l i ∈ l := by
 obtain ⟨j, rfl⟩ : ∃ j : Nat, i = (j : Int) := ⟨i.toNat, by omega⟩
 rw [rdH l j (by omega)]; exact List.getElem_mem _
theorem nextV_short (s : List Int × List Hh) (i : Int) (h : shortH s.2) : shortH (nextV s i).2 := by
 unfold nextV; split
 ·rename_i c
  intro x hx
  rcases List.mem_or_eq_of_mem_set hx with hx | rfl
  ·exact h x hx
  ·exact stepV_short _ _ (h _ (rdH_mem _ _ c.1 c.2.1))
 ·exact h
theorem runV_snoc (m : List Int) (hs : List Hh) (o : List Int) (i : Int) : runV m hs (o ++ [i]) = nextV (runV m hs o) i := by unfold runV; rw [List.foldl_append]; rfl
theorem runV_len (m : List Int) (hs : List Hh) (o : List Int) : (runV m hs o).1.length = m.length ∧ (runV m hs o).2.length = hs.length := by
 have g : ∀ (o : List Int) s, ((o.foldl nextV s).1).length = s.1.length ∧ ((o.foldl nextV s).2).length = s.2.length := by
  intro o
  induction o with
  | nil => exact fun s => ⟨rfl, rfl⟩
  | cons i o ih => intro s; have h := ih (nextV s i); have h2 := nextV_len s i; exact ⟨h.1.trans h2.1, h.2.trans h2.2⟩
 exact g o (m, hs)
theorem runV_short (m : List Int) (hs : List Hh) (o : List Int) (h : shortH hs) : shortH (runV m hs o).2 := by
 have g : ∀ (o : List Int) s, shortH s.2 → shortH (o.foldl nextV s).2 := by
  intro o
  induction o with
  | nil => exact fun s h => h
  | cons i o ih => intro s h; exact ih _ (nextV_short s i h)
 exact g o (m, hs) h
def flatV (m : List Int) (h : Hh) : List Int × Hh := if wordsB m 24 = true ∧ goB h = true then stepV m h else (m, h)
theorem hartB_mk {r : List Int} {p s : Int} (h1 : r.length = 4) (h2 : ∀ x ∈ r, 0 ≤ x ∧ x ≤ 65535) (h3 : 0 ≤ p ∧ p ≤ 23) (h4 : 0 ≤ s ∧ s ≤ 2) : hartB r p s = true := by
 unfold hartB wordsB
 rw [decide_eq_true h3, decide_eq_true h4, decide_eq_true (by omega), List.all_eq_true.2 fun x hx => decide_eq_true (h2 x hx)]; rfl
theorem set_word {r : List Int} {i : Nat} {v : Int} (h2 : ∀ x ∈ r, 0 ≤ x ∧ x ≤ 65535) (hv : 0 ≤ v ∧ v ≤ 65535) : ∀ x ∈ r.set i v, 0 ≤ x ∧ x ≤ 65535 := fun x hx => by
 rcases List.mem_or_eq_of_mem_set hx with hx | rfl
 ·exact h2 x hx
 ·exact hv
theorem workV_ok (r : List Int) (pc st o i a b n got : Int) (h : hartB r pc st = true) : hartB (workV r pc st o i a b n got).1 (workV r pc st o i a b n got).2.1 (workV r pc st o i a b n got).2.2.1 = true ∧ (workV r pc st o i a b n got).2.2.2 ≤ 65535 := by
 obtain ⟨p1, p2, p3, p4⟩ := hartB_parts h
 have wa := rd_word p2 a
 have wb := rd_word p2 b
 unfold workV
 by_cases c : hartB r pc st = true ∧ st = 0 ∧ (0 ≤ got ∧ got ≤ 65535)
 ·rw [if_pos c]
  by_cases hi : insOkB o i a b n = true
  ·have q := insOkB_bounds hi
   have hst := c.2.1
   have hg := c.2.2
   have s1 : ∀ v : Int, 0 ≤ v ∧ v ≤ 65535 → hartB (r.set i.toNat v) ((pc + 1) % 24) st = true := fun v hv => hartB_mk (by rw [List.length_set]; exact p1) (set_word p2 hv) (by omega) p4
   rw [if_pos hi]
   unfold opV
   split
   ·exact ⟨s1 _ (by omega), by dsimp only; omega⟩
   split
   ·exact ⟨s1 _ (by omega), by dsimp only; omega⟩
   split
   ·exact ⟨s1 _ (by omega), by dsimp only; omega⟩
   split
   ·exact ⟨s1 _ (by omega), by dsimp only; omega⟩
   split
   ·exact ⟨s1 _ hg, by dsimp only; omega⟩
   split
   ·exact ⟨hartB_mk p1 p2 (by dsimp only; omega) p4, wb.2⟩
   split
   ·exact ⟨s1 _ hg, by dsimp only; omega⟩
   split
   ·split
    ·exact ⟨hartB_mk p1 p2 (by dsimp only; omega) p4, by dsimp only; omega⟩
    ·exact ⟨hartB_mk p1 p2 (by dsimp only; omega) p4, by dsimp only; omega⟩
   split
   ·exact ⟨hartB_mk p1 p2 (by dsimp only; omega) p4, by dsimp only; omega⟩
   split
   ·exact ⟨hartB_mk p1 p2 p3 (by dsimp only; omega), by dsimp only; omega⟩
   ·exact ⟨hartB_mk p1 p2 (by dsimp only; omega) p4, by dsimp only; omega⟩
  ·rw [if_neg hi]; exact ⟨hartB_mk p1 p2 p3 (by dsimp only; omega), by dsimp only; omega⟩
 ·rw [if_neg c]; exact ⟨h, by dsimp only; omega⟩
theorem wordsB_set {m : List Int} {i : Nat} {v : Int} (h : wordsB m 24 = true) (hv : 0 ≤ v ∧ v ≤ 65535) : wordsB (m.set i v) 24 = true := by
 have l := wordsB_24 h
 unfold wordsB
 rw [List.length_set, decide_eq_true (by omega), List.all_eq_true.2 fun x hx => decide_eq_true (set_word (fun x hx => wordsB_mem h x hx) hv x hx)]; rfl
theorem stepV_ok (m : List Int) (h : Hh) (hm : wordsB m 24 = true) (hh : hB h = true) : wordsB (stepV m h).1 24 = true ∧ hB (stepV m h).2 = true := by
 have w := workV_ok h.f0 h.f1 h.f2 (decodeV (rd m h.f1)).1 (decodeV (rd m h.f1)).2.1 (decodeV (rd m h.f1)).2.2.1 (decodeV (rd m h.f1)).2.2.2.1 (decodeV (rd m h.f1)).2.2.2.2.1 (gotV m h) hh
 have e : wkV m h = workV h.f0 h.f1 h.f2 (decodeV (rd m h.f1)).1 (decodeV (rd m h.f1)).2.1 (decodeV (rd m h.f1)).2.2.1 (decodeV (rd m h.f1)).2.2.2.1 (decodeV (rd m h.f1)).2.2.2.2.1 (gotV m h) := rfl
 rw [← e] at w
 unfold stepV
 refine ⟨?_, w.1⟩
 dsimp only
 split
 ·rename_i c; exact wordsB_set hm ⟨c, w.2⟩
 ·exact hm
theorem nextV_words (s : List Int × List Hh) (i : Int) (hm : wordsB s.1 24 = true) : wordsB (nextV s i).1 24 = true := by
 unfold nextV
 split
 ·rename_i c
  have g := c.2.2
  unfold goB at g
  rw [Bool.and_eq_true] at g
  exact (stepV_ok _ _ hm g.1).1
 ·exact hm
theorem runV_words (m : List Int) (hs : List Hh) (o : List Int) (hm : wordsB m 24 = true) : wordsB (runV m hs o).1 24 = true := by
 have g : ∀ (o : List Int) s, wordsB s.1 24 = true → wordsB (o.foldl nextV s).1 24 = true := by
  intro o
  induction o with
  | nil => exact fun s h => h
  | cons i o ih => intro s h; exact ih _ (nextV_words s i h)
 exact g o (m, hs) hm
theorem sAddr_eq (x : Int) : spec_l9Address.f x = some (x % 24) := by
 unfold spec_l9Address.f
 have hb := tmod_bd x 24 (by omega)
 have hu := tmod_up x 24 (by omega) (by omega)
 generalize x.tmod 24 = t at hb hu ⊢
 rw [← hu]
 by_cases c : t < 0
 ·rw [if_pos c, wrap_small (by omega) (by omega), tmod_pos _ _ (by omega), Int.emod_eq_of_lt (by omega) (by omega)]
 ·rw [if_neg c, tmod_pos _ _ (by omega), Int.add_emod_right, Int.emod_eq_of_lt (by omega) (by omega)]
theorem and_word (x : Int) : Go.bits .and .i64 x 65535 = x % 65536 := by
 have e : Go.bits .and .i64 x 65535 = IntKind.i64.wrap (((BitVec.ofInt 64 x &&& BitVec.ofInt 64 (65535 : Int)).toNat : Nat) : Int) := rfl
 have h : (BitVec.ofInt 64 x &&& BitVec.ofInt 64 (65535 : Int)).toNat = (x % 65536).toNat := by
  rw [BitVec.toNat_and, show (BitVec.ofInt 64 (65535 : Int)).toNat = 2 ^ 16 - 1 by decide, Nat.and_two_pow_sub_one_eq_mod, BitVec.toNat_ofInt]
  omega
 rw [e, h, wraps_i64 _ (by omega) (by omega)]
 omega
theorem sWord_eq (x : Int) : spec_l9Word.f x = some (x % 65536) := by
 unfold spec_l9Word.f
 rw [and_word]
theorem specDecode_eq (w : Int) : spec_Decode.f w = some (decodeV w) := by
 unfold spec_Decode.f decodeV decodeB
 rw [l1In_eq, Option.bind_some]
 by_cases h : 0 ≤ w ∧ w ≤ 65535
 ·have e1 : Int.tmod w 16 = w % 16 := tmod_pos _ _ h.1
  have e2 : Int.tmod (wrap64 (Int.tdiv w 16)) 4 = w / 16 % 4 := by rw [tdiv_pos _ _ h.1, wrap_small (by omega) (by omega), tmod_pos _ _ (by omega)]
  have e3 : Int.tmod (wrap64 (Int.tdiv w 64)) 4 = w / 64 % 4 := by rw [tdiv_pos _ _ h.1, wrap_small (by omega) (by omega), tmod_pos _ _ (by omega)]
  have e4 : Int.tmod (wrap64 (Int.tdiv w 256)) 4 = w / 256 % 4 := by rw [tdiv_pos _ _ h.1, wrap_small (by omega) (by omega), tmod_pos _ _ (by omega)]
  have e5 : wrap64 (Int.tdiv w 1024) = w / 1024 := by rw [tdiv_pos _ _ h.1, wrap_small (by omega) (by omega)]
  rw [decide_eq_true h, if_pos rfl, e1, e2, e3, e4, e5, specInsOk_eq, Option.bind_some, Bool.true_and]
  split <;> rfl
 ·rw [decide_eq_false h, if_neg (by simp), Bool.false_and, if_neg (by simp)]
theorem specTarget_eq (o i a b n : Int) (r : List Int) : spec_Target.f o i a b n r = some (targetV o i a b n r) := by
 unfold spec_Target.f targetV
 rw [specInsOk_eq, Option.bind_some]
 by_cases h : insOkB o i a b n = true
 ·have hb := insOkB_bounds h
  rw [if_pos h]
  by_cases hl : r.length = 4
  ·rw [if_pos (by omega)]
   by_cases c4 : o = 4
   ·rw [if_pos c4, if_pos (by omega), if_pos (by omega), sAddr_eq, Option.bind_some, if_pos ⟨h, .inl c4, hl⟩]
   rw [if_neg c4]
   by_cases c5 : o = 5
   ·rw [if_pos c5, if_pos (by omega), if_pos (by omega), sAddr_eq, Option.bind_some, if_pos ⟨h, .inr (.inl c5), hl⟩]
   rw [if_neg c5]
   by_cases c6 : o = 6
   ·rw [if_pos c6, if_pos (by omega), if_pos (by omega), sAddr_eq, Option.bind_some, if_pos ⟨h, .inr (.inr c6), hl⟩]
   ·rw [if_neg c6, if_neg (fun x => by rcases x.2.1 with q | q | q <;> first | exact c4 q | exact c5 q | exact c6 q)]
  ·rw [if_neg (by omega), if_neg (fun x => hl x.2.2)]
 ·rw [if_neg h, if_neg (fun x => h x.1)]
theorem specWork_j1 (k : Nat) (r : List Int) (pc st o i a b n got : Int) (hr : r.length = 4) (hw : ∀ x, x ∈ r → 0 ≤ x ∧ x ≤ 65535) (hg : 0 ≤ got ∧ got ≤ 65535) (hi : 0 ≤ i ∧ i ≤ 3) (hn : 0 ≤ n ∧ n ≤ 63) :
  spec_Work.j1 (k + 2) got (-1) (rd r a) (rd r b) o r pc st o i a b n r ((pc + 1) % 24) st = some (opV r pc st o i a b n got) := by
 have wa := rd_word hw a
 have wb := rd_word hw b
 rw [spec_Work.j1]
 unfold opV
 rw [wrap_small (x := rd r a + rd r b) (by omega) (by omega), wrap_small (x := rd r a - rd r b) (by omega) (by omega), wrap_small (x := rd r a + n) (by omega) (by omega), wrap_small (x := got + rd r b) (by omega) (by omega)]
 simp only [sWord_eq, sAddr_eq, Option.bind_some]
 have h1 : i < (r.length : Int) := by omega
 simp only [if_pos hi.1, if_pos h1]
 by_cases c1 : o = 1
 ·rw [if_pos c1, if_pos c1]
  all_goals (try rw [spec_Work.j2])
 rw [if_neg c1, if_neg c1]
 by_cases c2 : o = 2
 ·rw [if_pos c2, if_pos c2]
  all_goals (try rw [spec_Work.j2])
 rw [if_neg c2, if_neg c2]
 by_cases c3 : o = 10
 ·rw [if_pos c3, if_pos c3]
  all_goals (try rw [spec_Work.j2])
 rw [if_neg c3, if_neg c3]
 by_cases c4 : o = 3
 ·rw [if_pos c4, if_pos c4]
  all_goals (try rw [spec_Work.j2])
 rw [if_neg c4, if_neg c4]
 by_cases c5 : o = 4
 ·rw [if_pos c5, if_pos c5]
  all_goals (try rw [spec_Work.j2])
 rw [if_neg c5, if_neg c5]
 by_cases c6 : o = 5
 ·rw [if_pos c6, if_pos c6]
  all_goals (try rw [spec_Work.j2])
 rw [if_neg c6, if_neg c6]
 by_cases c7 : o = 6
 ·rw [if_pos c7, if_pos c7]
  all_goals (try rw [spec_Work.j2])
 rw [if_neg c7, if_neg c7]
 by_cases c8 : o = 7
 ·rw [if_pos c8, if_pos c8]
  by_cases c : rd r a = 0
  ·rw [if_pos c, if_pos c]
   all_goals (try rw [spec_Work.j2])
  ·rw [if_neg c, if_neg c]
   all_goals (try rw [spec_Work.j2])
 rw [if_neg c8, if_neg c8]
 by_cases c9 : o = 8
 ·rw [if_pos c9, if_pos c9]
  all_goals (try rw [spec_Work.j2])
 rw [if_neg c9, if_neg c9]
 by_cases c10 : o = 9
 ·rw [if_pos c10, if_pos c10]
  all_goals (try rw [spec_Work.j2])
 rw [if_neg c10, if_neg c10]
 all_goals (try rw [spec_Work.j2])
theorem specWork_eq (r : List Int) (pc st o i a b n got : Int) (hl : r.length ≤ 2097152) (k : Nat) (hk : r.length + 10 < k) : spec_Work.f k r pc st o i a b n got = some (workV r pc st o i a b n got) := by
 obtain ⟨k, rfl⟩ : ∃ m, k = m + 4 := ⟨k - 4, by omega⟩
 unfold spec_Work.f spec_l9Copy.f workV
 rw [Option.bind_some, if_pos (by simp; omega), Option.bind_some, List.nil_append]
 simp only [specHartOk_eq r pc st (by omega) (k + 4) (by omega), Option.bind_some]
 have jt : spec_Work.j0 (k + 4) got true r pc st o i a b n r pc st = some (r, pc, st, -1) := by rw [spec_Work.j0, if_pos rfl]
 by_cases h : hartB r pc st = true
 ·obtain ⟨p1, p2, p3, p4⟩ := hartB_parts h
  rw [if_pos h]
  by_cases hs : st = 0
  ·rw [if_pos hs, l1In_eq, Option.bind_some]
   by_cases hg : 0 ≤ got ∧ got ≤ 65535
   ·rw [if_pos ⟨h, hs, hg⟩, decide_eq_true hg, Bool.not_true, spec_Work.j0, if_neg (by simp), wrap_small (x := pc + 1) (by omega) (by omega), sAddr_eq, Option.bind_some, specInsOk_eq, Option.bind_some]
    by_cases hi : insOkB o i a b n = true
    ·obtain ⟨b0, b0', b1, b1', b2, b2', b3, b3', b4, b4'⟩ := insOkB_bounds hi
     rw [if_pos hi, if_pos hi, if_pos b2, if_pos (by omega), if_pos b3, if_pos (by omega)]
     exact specWork_j1 (k + 1) r pc st o i a b n got p1 p2 hg ⟨b1, b1'⟩ ⟨b4, b4'⟩
    ·rw [if_neg hi, if_neg hi]
   ·rw [if_neg (fun c => hg c.2.2), decide_eq_false hg, Bool.not_false, jt]
  ·rw [if_neg hs, jt, if_neg (fun c => hs c.2.1)]
 ·rw [if_neg h, jt, if_neg (fun c => h c.1)]
theorem specFlatStep_eq (m : List Int) (h : Hh) (hm : m.length ≤ 2097152) (hl : h.f0.length ≤ 2097152) (k : Nat) (hk : 2097200 < k) : spec_FlatStep.f k m h.f0 h.f1 h.f2 = some ((flatV m h).1, (flatV m h).2.f0, (flatV m h).2.f1, (flatV m h).2.f2) := by
 obtain ⟨k, rfl⟩ : ∃ j, k = j + 1 := ⟨k - 1, by omega⟩
 unfold spec_FlatStep.f flatV
 rw [Option.bind_some, if_pos (by simp; omega), Option.bind_some, List.nil_append, l1Words_eq m 24 hm (k + 1) (by omega), Option.bind_some]
 have jt : spec_FlatStep.j0 (k + 1) m m true h.f0 h.f1 h.f2 = some (m, h.f0, h.f1, h.f2) := by
  rw [spec_FlatStep.j0, if_pos rfl]
  unfold spec_l9Copy.f
  rw [Option.bind_some, if_pos (by simp; omega), Option.bind_some, List.nil_append]
 by_cases w : wordsB m 24 = true
 ·have l24 := wordsB_24 w
  rw [if_pos w, specHartOk_eq _ _ _ hl (k + 1) (by omega), Option.bind_some]
  by_cases hh : hartB h.f0 h.f1 h.f2 = true
  ·obtain ⟨p1, p2, p3, p4⟩ := hartB_parts hh
   rw [if_pos hh]
   by_cases hs : h.f2 = 0
   ·have g : goB h = true := by unfold goB hB; rw [hh, hs]; rfl
    rw [if_pos ⟨w, g⟩, show (h.f2 != 0) = false by rw [hs]; rfl, spec_FlatStep.j0, if_neg (by simp), if_pos p3.1, if_pos (by omega), specDecode_eq, Option.bind_some, specTarget_eq, Option.bind_some]
    unfold stepV
    rcases tgt_range (decodeV (rd m h.f1)).1 (decodeV (rd m h.f1)).2.1 (decodeV (rd m h.f1)).2.2.1 (decodeV (rd m h.f1)).2.2.2.1 (decodeV (rd m h.f1)).2.2.2.2.1 h.f0 with t | t
    ·have e : gotV m h = 0 := by unfold gotV; rw [if_neg (by omega)]
     rw [if_neg (by omega), specWork_eq _ _ _ _ _ _ _ _ _ (by omega) k (by omega), Option.bind_some]
     unfold wkV; rw [e]
     by_cases c : 0 ≤ (workV h.f0 h.f1 h.f2 (decodeV (rd m h.f1)).1 (decodeV (rd m h.f1)).2.1 (decodeV (rd m h.f1)).2.2.1 (decodeV (rd m h.f1)).2.2.2.1 (decodeV (rd m h.f1)).2.2.2.2.1 0).2.2.2
     ·have := put_tgt c; omega
     ·rw [if_neg c, if_neg c]
    ·have e : gotV m h = rd m (tgtV m h) := by unfold gotV tgtV; rw [if_pos t.1]
     rw [if_pos t.1, if_pos t.1, if_pos (by omega), specWork_eq _ _ _ _ _ _ _ _ _ (by omega) k (by omega), Option.bind_some]
     unfold wkV; rw [e]; unfold tgtV
     by_cases c : 0 ≤ (workV h.f0 h.f1 h.f2 (decodeV (rd m h.f1)).1 (decodeV (rd m h.f1)).2.1 (decodeV (rd m h.f1)).2.2.1 (decodeV (rd m h.f1)).2.2.2.1 (decodeV (rd m h.f1)).2.2.2.2.1 (rd m (targetV (decodeV (rd m h.f1)).1 (decodeV (rd m h.f1)).2.1 (decodeV (rd m h.f1)).2.2.1 (decodeV (rd m h.f1)).2.2.2.1 (decodeV (rd m h.f1)).2.2.2.2.1 h.f0))).2.2.2
     ·rw [if_pos c, if_pos c, if_pos (by omega)]
     ·rw [if_neg c, if_neg c]
   ·have g : ¬ goB h = true := fun q => by unfold goB at q; rw [Bool.and_eq_true] at q; exact hs (by simpa using q.2)
    rw [show (h.f2 != 0) = true by simpa using hs, jt, if_neg (fun q => g q.2)]
  ·have g : ¬ goB h = true := fun q => by unfold goB hB at q; rw [Bool.and_eq_true] at q; exact hh q.1
   rw [if_neg hh, jt, if_neg (fun q => g q.2)]
 ·rw [if_neg w, jt, if_neg (fun q => w q.1)]
abbrev Ev := S31
def eventV (m : List Int) (h : Hh) (who : Int) : Ev := if tgtV m h < 0 then ⟨who, h.f1, tgtV m h, -1, -1⟩ else ⟨who, h.f1, tgtV m h, if (decodeV (rd m h.f1)).1 = 5 then -1 else rd m (tgtV m h), (wkV m h).2.2.2⟩
def traceV : List Int × List Hh → List Int → List Ev
 | _, [] => []
 | s, i :: o => if mayGo s.2 i then eventV s.1 (rd_T80 s.2 i) i :: traceV (nextV s i) o else traceV s o
def ev1 (s : List Int × List Hh) (i : Int) : List Ev := if mayGo s.2 i then [eventV s.1 (rd_T80 s.2 i) i] else []
theorem traceV_snoc : ∀ (o : List Int) (s : List Int × List Hh) (i : Int), traceV s (o ++ [i]) = traceV s o ++ ev1 (o.foldl nextV s) i
 | [], s, i => by
  simp only [List.nil_append, traceV, List.foldl_nil]
  unfold ev1
  split <;> rfl
 | j :: o, s, i => by
  simp only [List.cons_append, traceV, List.foldl_cons]
  by_cases c : mayGo s.2 j
  ·rw [if_pos c, if_pos c, traceV_snoc o (nextV s j) i]; rfl
  ·have e : nextV s j = s := by unfold nextV; rw [if_neg c]
   rw [if_neg c, if_neg c, e, traceV_snoc o s i]
theorem traceV_len : ∀ (o : List Int) (s : List Int × List Hh), (traceV s o).length ≤ o.length
 | [], s => Nat.le_refl _
 | j :: o, s => by
  simp only [traceV]
  have h1 := traceV_len o (nextV s j)
  have h2 := traceV_len o s
  split
  ·simp only [List.length_cons]; omega
  ·simp only [List.length_cons]; omega
theorem specEventOf_eq (m : List Int) (h : Hh) (who : Int) (hm : m.length ≤ 2097152) (hl : h.f0.length ≤ 2097152) (k : Nat) (hk : 2097200 < k) : spec_EventOf.f k m h.f0 h.f1 h.f2 who = some (if wordsB m 24 = true ∧ goB h = true then ((eventV m h who).f0, (eventV m h who).f1, (eventV m h who).f2, (eventV m h who).f3, (eventV m h who).f4, true) else (0, 0, 0, 0, 0, false)) := by
 obtain ⟨k, rfl⟩ : ∃ j, k = j + 1 := ⟨k - 1, by omega⟩
 unfold spec_EventOf.f
 rw [l1Words_eq m 24 hm (k + 1) (by omega), Option.bind_some]
 have jt : spec_EventOf.j0 (k + 1) m who true h.f0 h.f1 h.f2 = some (0, 0, 0, 0, 0, false) := by rw [spec_EventOf.j0, if_pos rfl]
 by_cases w : wordsB m 24 = true
 ·have l24 := wordsB_24 w
  rw [if_pos w, specHartOk_eq _ _ _ hl (k + 1) (by omega), Option.bind_some]
  by_cases hh : hartB h.f0 h.f1 h.f2 = true
  ·obtain ⟨p1, p2, p3, p4⟩ := hartB_parts hh
   rw [if_pos hh]
   by_cases hs : h.f2 = 0
   ·have g : goB h = true := by unfold goB hB; rw [hh, hs]; rfl
    rw [if_pos ⟨w, g⟩, show (h.f2 != 0) = false by rw [hs]; rfl, spec_EventOf.j0, if_neg (by simp), if_pos p3.1, if_pos (by omega), specDecode_eq, Option.bind_some, specTarget_eq, Option.bind_some]
    unfold eventV
    have eT : targetV (decodeV (rd m h.f1)).1 (decodeV (rd m h.f1)).2.1 (decodeV (rd m h.f1)).2.2.1 (decodeV (rd m h.f1)).2.2.2.1 (decodeV (rd m h.f1)).2.2.2.2.1 h.f0 = tgtV m h := rfl
    rw [eT]
    have t : tgtV m h = -1 ∨ 0 ≤ tgtV m h ∧ tgtV m h ≤ 23 := tgt_range _ _ _ _ _ _
    rcases t with t | t
    ·have ht : tgtV m h < 0 := by omega
     simp only [if_pos ht]
    ·have e : gotV m h = rd m (tgtV m h) := by
      show (if 0 ≤ tgtV m h then rd m (tgtV m h) else 0) = _
      rw [if_pos t.1]
     have ew : workV h.f0 h.f1 h.f2 (decodeV (rd m h.f1)).1 (decodeV (rd m h.f1)).2.1 (decodeV (rd m h.f1)).2.2.1 (decodeV (rd m h.f1)).2.2.2.1 (decodeV (rd m h.f1)).2.2.2.2.1 (rd m (tgtV m h)) = wkV m h := by unfold wkV; rw [e]
     have ht : ¬ tgtV m h < 0 := by omega
     have h0 : tgtV m h < (m.length : Int) := by omega
     simp only [if_neg ht, if_pos t.1, if_pos h0]
     rw [specWork_eq _ _ _ _ _ _ _ _ _ (by omega) k (by omega), Option.bind_some, ew]
     by_cases c5 : (decodeV (rd m h.f1)).1 = 5
     ·simp only [if_pos c5]
     ·simp only [if_neg c5]
   ·have g : ¬ goB h = true := fun q => by unfold goB at q; rw [Bool.and_eq_true] at q; exact hs (by simpa using q.2)
    rw [show (h.f2 != 0) = true by simpa using hs, jt, if_neg (fun q => g q.2)]
  ·have g : ¬ goB h = true := fun q => by unfold goB hB at q; rw [Bool.and_eq_true] at q; exact hh q.1
   rw [if_neg hh, jt, if_neg (fun q => g q.2)]
 ·rw [if_neg w, jt, if_neg (fun q => w q.1)]
theorem specTrace_eq (m : List Int) (hs : List Hh) (o : List Int) (w : wordsB m 24 = true) (hn : hs.length ≤ 2097152) (hb : shortH hs) (k : Nat) (hk : 3000002 < k) :
  spec_Trace.f k m hs o = some (if o.length ≤ 2000 then traceV (m, hs) o else []) := by
 have l24 := wordsB_24 w
 unfold spec_Trace.f
 rw [Option.bind_some, if_pos (by simp; omega), Option.bind_some, if_pos (by simp; omega), List.nil_append, List.nil_append]
 obtain ⟨k, rfl⟩ : ∃ j, k = j + 2 := ⟨k - 2, by omega⟩
 by_cases ho : o.length ≤ 2000
 ·obtain ⟨C, hC⟩ : ∃ C : Nat, C = 2200000 := ⟨_, rfl⟩
  rw [if_pos ho]
  have h := for_st o.length (fun k' i (s : List Ev × List Int × List Hh) => spec_Trace.l0 (2 * k' + C) o s.1 s.2.1 s.2.2 (i : Int)) (fun i => (traceV (m, hs) (o.take i), runV m hs (o.take i))) (traceV (m, hs) o) ?_ ?_ ((k + 2 - C) / 2 - 1) 0 (Nat.zero_le _) (by omega)
  ·obtain ⟨d, hd⟩ : ∃ d, k + 2 = 2 * ((k + 2 - C) / 2 - 1) + C + d := ⟨k + 2 - (2 * ((k + 2 - C) / 2 - 1) + C), by omega⟩
   rw [hd]
   clear hd
   simp only [List.take_zero] at h
   induction d with
   | zero => exact h
   | succ d ih => exact (spec_Trace.mono_l _).1 _ _ _ _ _ _ ih
  ·intro k' i hi
   rw [show 2 * (k' + 1) + C = (2 * k' + C) + 1 + 1 by omega]
   have e : runV m hs (o.take (i + 1)) = nextV (runV m hs (o.take i)) o[i] := by rw [← snoc_step o i hi, runV_snoc]
   have et : traceV (m, hs) (o.take (i + 1)) = traceV (m, hs) (o.take i) ++ ev1 (runV m hs (o.take i)) o[i] := by
    rw [← snoc_step o i hi, traceV_snoc]; rfl
   have tl := traceV_len (o.take i) (m, hs)
   rw [List.length_take] at tl
   have hl := runV_len m hs (o.take i)
   have hsh := runV_short m hs (o.take i) hb
   have hw := runV_words m hs (o.take i) w
   dsimp only
   rw [e, et]
   generalize traceV (m, hs) (o.take i) = T at tl ⊢
   generalize runV m hs (o.take i) = s at hl hsh hw ⊢
   have l24 := wordsB_24 hw
   rw [spec_Trace.l0, if_pos (by omega), decide_eq_true (by omega), spec_Trace.j1, if_pos rfl, if_pos (by omega), if_pos (by omega), rd_nat o i hi, wrap_small (by omega) (by omega), l1In_eq, Option.bind_some, wrap_succ (by omega)]
   unfold nextV ev1
   by_cases c : 0 ≤ o[i] ∧ o[i] ≤ (s.2.length : Int) - 1
   ·have hsi := hsh _ (rdH_mem _ _ c.1 (by omega : o[i] < (s.2.length : Int)))
    rw [if_pos (decide_eq_true c), if_pos c.1, if_pos (by omega), specEventOf_eq _ _ _ (by omega) hsi _ (by omega), Option.bind_some]
    by_cases g : goB (rd_T80 s.2 o[i]) = true
    ·have mg : mayGo s.2 o[i] := ⟨c.1, by omega, g⟩
     rw [if_pos (show wordsB s.1 24 = true ∧ goB (rd_T80 s.2 o[i]) = true from ⟨hw, g⟩), if_pos rfl, if_pos (by omega), specFlatStep_eq _ _ (by omega) hsi _ (by omega), Option.bind_some, if_pos mg, if_pos mg]
     unfold flatV
     rw [if_pos ⟨hw, g⟩]
    ·have mg : ¬ mayGo s.2 o[i] := fun q => g q.2.2
     rw [if_neg (show ¬ (wordsB s.1 24 = true ∧ goB (rd_T80 s.2 o[i]) = true) from fun q => g q.2), if_neg (by simp), specFlatStep_eq _ _ (by omega) hsi _ (by omega), Option.bind_some, if_neg mg, if_neg mg]
     unfold flatV
     rw [if_neg (fun q => g q.2), List.append_nil]
     congr 1
     obtain ⟨q, hq⟩ : ∃ q : Nat, o[i] = (q : Int) := ⟨o[i].toNat, by omega⟩
     rw [hq, rdH s.2 q (by omega), Int.toNat_natCast]
     exact List.set_getElem_self (by omega)
   ·rw [if_neg (by simpa using c), if_neg (fun x => c ⟨x.1, by have := x.2.1; omega⟩), if_neg (fun x => c ⟨x.1, by have := x.2.1; omega⟩), List.append_nil]
  ·intro k'
   rw [show 2 * (k' + 1) + C = (2 * k' + C) + 1 + 1 by omega, List.take_of_length_le (Nat.le_refl _)]
   rw [spec_Trace.l0, if_neg (by omega), spec_Trace.j1, if_neg (by simp)]
 ·rw [if_neg ho]
  by_cases hz : (0 : Int) < (o.length : Int)
  ·rw [spec_Trace.l0, if_pos hz, decide_eq_false (by omega), spec_Trace.j1, if_neg (by simp)]
  ·omega
def evD (x : Ev) : Prop := (0 ≤ x.f0 ∧ x.f0 ≤ 2) ∧ (0 ≤ x.f1 ∧ x.f1 ≤ 23) ∧ (-1 ≤ x.f2 ∧ x.f2 ≤ 23) ∧ (-1 ≤ x.f3 ∧ x.f3 ≤ 65535) ∧ (-1 ≤ x.f4 ∧ x.f4 ≤ 65535)
theorem workV_lo (r : List Int) (pc st o i a b n got : Int) (h : hartB r pc st = true) : -1 ≤ (workV r pc st o i a b n got).2.2.2 := by
 obtain ⟨p1, p2, p3, p4⟩ := hartB_parts h
 have wb := rd_word p2 b
 unfold workV
 split
 ·rename_i c
  have hg := c.2.2
  split
  ·unfold opV
   repeat' split
   all_goals dsimp only
   all_goals omega
  ·dsimp only; omega
 ·dsimp only; omega
theorem eventV_ok (m : List Int) (h : Hh) (who : Int) (hm : wordsB m 24 = true) (g : goB h = true) (hw : 0 ≤ who ∧ who ≤ 2) : evD (eventV m h who) := by
 unfold goB at g
 rw [Bool.and_eq_true] at g
 obtain ⟨p1, p2, p3, p4⟩ := hartB_parts g.1
 have l24 := wordsB_24 hm
 have hr := rd_word (fun x hx => wordsB_mem hm x hx) (tgtV m h)
 have h1 := (workV_ok h.f0 h.f1 h.f2 (decodeV (rd m h.f1)).1 (decodeV (rd m h.f1)).2.1 (decodeV (rd m h.f1)).2.2.1 (decodeV (rd m h.f1)).2.2.2.1 (decodeV (rd m h.f1)).2.2.2.2.1 (gotV m h) g.1).2
 have h2 := workV_lo h.f0 h.f1 h.f2 (decodeV (rd m h.f1)).1 (decodeV (rd m h.f1)).2.1 (decodeV (rd m h.f1)).2.2.1 (decodeV (rd m h.f1)).2.2.2.1 (decodeV (rd m h.f1)).2.2.2.2.1 (gotV m h) g.1
 have ht : tgtV m h = -1 ∨ 0 ≤ tgtV m h ∧ tgtV m h ≤ 23 := tgt_range _ _ _ _ _ _
 have e : wkV m h = workV h.f0 h.f1 h.f2 (decodeV (rd m h.f1)).1 (decodeV (rd m h.f1)).2.1 (decodeV (rd m h.f1)).2.2.1 (decodeV (rd m h.f1)).2.2.2.1 (decodeV (rd m h.f1)).2.2.2.2.1 (gotV m h) := rfl
 rw [← e] at h1 h2
 unfold eventV evD
 split
 ·dsimp only; omega
 ·dsimp only; split <;> omega
theorem traceV_ok : ∀ (o : List Int) (s : List Int × List Hh), wordsB s.1 24 = true → s.2.length ≤ 3 → ∀ x ∈ traceV s o, evD x
 | [], s, _, _ => by simp [traceV]
 | j :: o, s, hm, hl => by
  simp only [traceV]
  have hn := nextV_words s j hm
  have hk := (nextV_len s j).2
  split
  ·rename_i c
   intro x hx
   rcases List.mem_cons.1 hx with rfl | hx
   ·exact eventV_ok _ _ _ hm c.2.2 ⟨c.1, by have := c.2.1; omega⟩
   ·exact traceV_ok o (nextV s j) hn (by omega) x hx
  ·exact traceV_ok o s hm hl
theorem l1Pick_ex (c : List Int) (i s : Int) (h : curOk c i) (l : List ByteArray) (h0 : 0 < l.length) (h1 : l.length ≤ 1000) : ∃ v i' s', spec_l1Pick.f c i s l = some (v, i', s') ∧ v ∈ l ∧ curOk c i' := by
 unfold spec_l1Pick.f
 obtain ⟨v, i1, s1, e, p, q, hc⟩ := l1Below_ex c i s h (l.length : Int) (by omega) (by omega)
 rw [e, Option.bind_some, if_pos p, if_pos q]
 refine ⟨_, _, _, rfl, ?_, hc⟩
 obtain ⟨j, rfl⟩ : ∃ j : Nat, v = (j : Int) := ⟨v.toNat, by omega⟩
 have : rdOf ByteArray.empty l (j : Int) = l[j] := by unfold rdOf; simp [List.getD, show j < l.length by omega]
 rw [this]; exact List.getElem_mem _
def wordX (x : Int) : Prop := 0 ≤ x ∧ x ≤ 65535
theorem specCode_w (o r a b n : Int) : ∃ v t, spec_Code.f o r a b n = some (v, t) ∧ wordX v := by
 unfold spec_Code.f
 rw [specInsOk_eq, Option.bind_some]
 by_cases h : insOkB o r a b n = true
 ·have q := insOkB_bounds h
  rw [if_pos h]
  refine ⟨_, _, rfl, ?_⟩
  unfold wordX
  rw [wrap_small (x := 16 * r) (by omega) (by omega), wrap_small (x := 64 * a) (by omega) (by omega), wrap_small (x := 256 * b) (by omega) (by omega), wrap_small (x := 1024 * n) (by omega) (by omega)]
  rw [wrap_small (x := o + 16 * r) (by omega) (by omega)]
  rw [wrap_small (x := o + 16 * r + 64 * a) (by omega) (by omega)]
  rw [wrap_small (x := o + 16 * r + 64 * a + 256 * b) (by omega) (by omega)]
  rw [wrap_small (x := o + 16 * r + 64 * a + 256 * b + 1024 * n) (by omega) (by omega)]
  omega
 ·rw [if_neg h]; exact ⟨_, _, rfl, by unfold wordX; omega⟩
theorem specCodeW_fn : ∃ cf : Int → Int → Int → Int → Int → Int × Bool, (∀ o r a b n, spec_Code.f o r a b n = some (cf o r a b n)) ∧ ∀ o r a b n, wordX (cf o r a b n).1 := by
 have h : ∀ o r a b n, ∃ v : Int × Bool, spec_Code.f o r a b n = some v ∧ wordX v.1 := fun o r a b n => by
  obtain ⟨v, t, e, w⟩ := specCode_w o r a b n
  exact ⟨(v, t), e, w⟩
 exact ⟨fun o r a b n => (h o r a b n).choose, fun o r a b n => (h o r a b n).choose_spec.1, fun o r a b n => (h o r a b n).choose_spec.2⟩
theorem words_set {m : List Int} {i : Nat} {v : Int} (h : ∀ x ∈ m, wordX x) (hv : wordX v) : ∀ x ∈ m.set i v, wordX x := fun x hx => by
 rcases List.mem_or_eq_of_mem_set hx with hx | rfl
 ·exact h x hx
 ·exact hv
theorem words_snoc {m : List Int} {v : Int} (h : ∀ x ∈ m, wordX x) (hv : wordX v) : ∀ x ∈ m ++ [v], wordX x := fun x hx => by
 rcases List.mem_append.1 hx with hx | hx
 ·exact h x hx
 ·rw [List.mem_singleton] at hx; subst hx; exact hv
theorem drawMemW_l1 (c : List Int) (i s : Int) (T : List S93) (hT : T.length = 4) : ∀ (k j : Nat) (m : List Int), m.length = 24 → (∀ x ∈ m, wordX x) → j ≤ 4 → 4 < j + k → ∃ m', spec_l9DrawMem.l1 k m T (j : Int) c i s = some (m', i, s) ∧ m'.length = 24 ∧ ∀ x ∈ m', wordX x
 | 0, j, m, _, _, h1, h2 => by omega
 | k + 1, j, m, hm, hw, h1, h2 => by
  obtain ⟨cf, hcf, hcw⟩ := specCodeW_fn
  rw [spec_l9DrawMem.l1]
  by_cases h : j < 4
  ·rw [if_pos (by omega), if_pos (by omega), hcf, Option.bind_some, if_pos (by omega), wrap_succ (by omega)]
   exact drawMemW_l1 c i s T hT k (j + 1) _ (by simpa using hm) (words_set hw (hcw _ _ _ _ _)) (by omega) (by omega)
  ·rw [if_neg (by omega)]; exact ⟨m, rfl, hm, hw⟩
theorem drawMemW_l2 (c : List Int) (i s : Int) (T : List S93) (hT : T.length = 4) : ∀ (k j : Nat) (m : List Int), m.length = 24 → (∀ x ∈ m, wordX x) → j ≤ 4 → 4 < j + k → ∃ m', spec_l9DrawMem.l2 k m T (j : Int) c i s = some (m', i, s) ∧ m'.length = 24 ∧ ∀ x ∈ m', wordX x
 | 0, j, m, _, _, h1, h2 => by omega
 | k + 1, j, m, hm, hw, h1, h2 => by
  obtain ⟨cf, hcf, hcw⟩ := specCodeW_fn
  rw [spec_l9DrawMem.l2]
  by_cases h : j < 4
  ·rw [if_pos (by omega), if_pos (by omega), hcf, Option.bind_some, if_pos (by omega), wrap_succ (by omega)]
   exact drawMemW_l2 c i s T hT k (j + 1) _ (by simpa using hm) (words_set hw (hcw _ _ _ _ _)) (by omega) (by omega)
  ·rw [if_neg (by omega)]; exact ⟨m, rfl, hm, hw⟩
theorem drawMemW_l0 (c : List Int) : ∀ (k j : Nat) (m : List Int) (i s : Int), curOk c i → m.length = j → (∀ x ∈ m, wordX x) → j ≤ 24 → 40 < j + k → ∃ m' i' s', spec_l9DrawMem.l0 k m (j : Int) c i s = some (m', i', s') ∧ m'.length = 24 ∧ (∀ x ∈ m', wordX x) ∧ curOk c i'
 | 0, j, m, i, s, _, _, _, h1, h2 => by omega
 | k + 1, j, m, i, s, hc, hm, hw, h1, h2 => by
  obtain ⟨cf, hcf, hcw⟩ := specCodeW_fn
  have pick : ∀ v : Int, v ∈ ([0, 1, 5, 65535] : List Int) → wordX v := fun v hv => by
   simp only [List.mem_cons, List.mem_nil_iff, or_false, List.not_mem_nil] at hv
   unfold wordX; omega
  rw [spec_l9DrawMem.l0]
  by_cases h : j < 24
  ·obtain ⟨o, r, a, b, n, i1, s1, e1, c1⟩ := drawIns_ex c i s hc k (by omega)
   rw [if_pos (by omega), e1, Option.bind_some, hcf, Option.bind_some]
   obtain ⟨v2, i2, s2, e2, p2, c2⟩ := l1PickInt_ex c i1 s1 c1 [0, 1, 5, 65535] (by simp) (by simp)
   obtain ⟨v3, i3, s3, e3, c3⟩ := l1Once_ex c i1 s1 c1 9 (by omega) (by omega)
   obtain ⟨v4, i4, s4, e4, p4, c4⟩ := l1PickInt_ex c i3 s3 c3 [0, 1, 5, 65535] (by simp) (by simp)
   have next : ∀ (x : Int) i s, wordX x → curOk c i → ∃ m' i' s', (if m.length < 17592186044416 then (spec_l9DrawMem.l0 k (m ++ [x]) (wrap64 ((j : Int) + 1)) c i s) else none) = some (m', i', s') ∧ m'.length = 24 ∧ (∀ x ∈ m', wordX x) ∧ curOk c i' := by
    intro x i s hx hc
    rw [if_pos (by omega), wrap_succ (by omega)]
    exact drawMemW_l0 c k (j + 1) _ i s hc (by simp; omega) (words_snoc hw hx) (by omega) (by omega)
   by_cases h15 : (j : Int) > 15
   ·rw [if_pos h15]
    simp only [e2, Option.bind_some]; exact next _ _ _ (pick _ p2) c2
   ·rw [if_neg h15]
    simp only [e3, Option.bind_some]
    by_cases hv : v3 = true
    ·rw [if_pos hv]
     simp only [e4, Option.bind_some]; exact next _ _ _ (pick _ p4) c4
    ·rw [if_neg hv]; exact next _ _ _ (hcw _ _ _ _ _) c3
  ·obtain ⟨v, i1, s1, e1, _, _, c1⟩ := l1Below_ex c i s hc 4 (by omega) (by omega)
   rw [if_neg (by omega), e1, Option.bind_some]
   by_cases h0 : v = 0
   ·obtain ⟨m', e, hl, hw'⟩ := drawMemW_l1 c i1 s1 [⟨1, 1, 0, 0, 1⟩, ⟨6, 2, 0, 1, 20⟩, ⟨10, 3, 2, 1, 0⟩, ⟨8, 0, 0, 0, 1⟩] rfl k 0 m (by omega) hw (by omega) (by omega)
    rw [if_pos h0]; exact ⟨_, _, _, e, hl, hw', c1⟩
   ·rw [if_neg h0]
    by_cases h1 : v = 1
    ·obtain ⟨m', e, hl, hw'⟩ := drawMemW_l2 c i1 s1 [⟨4, 1, 0, 0, 8⟩, ⟨3, 1, 1, 0, 1⟩, ⟨5, 0, 0, 1, 8⟩, ⟨8, 0, 0, 0, 8⟩] rfl k 0 m (by omega) hw (by omega) (by omega)
     rw [if_pos h1]; exact ⟨_, _, _, e, hl, hw', c1⟩
    ·rw [if_neg h1]; exact ⟨_, _, _, rfl, by omega, hw, c1⟩
theorem drawMemW_ex (c : List Int) (i s : Int) (h : curOk c i) (k : Nat) (hk : 50 < k) : ∃ m i' s', spec_l9DrawMem.f k c i s = some (m, i', s') ∧ wordsB m 24 = true ∧ curOk c i' := by
 obtain ⟨m, i1, s1, e, hl, hw, hc⟩ := drawMemW_l0 c k 0 [] i s h rfl (by simp) (by omega) (by omega)
 refine ⟨m, i1, s1, e, ?_, hc⟩
 unfold wordsB
 rw [decide_eq_true (by omega), Bool.true_and, List.all_eq_true]
 exact fun x hx => decide_eq_true (hw x hx)
theorem l9Addr_eq (x : Int) : spec_l9Address.f x = some (x % 24) := by
 unfold spec_l9Address.f
 have hb := tmod_bd x 24 (by omega)
 have hu := tmod_up x 24 (by omega) (by omega)
 generalize x.tmod 24 = t at hb hu ⊢
 rw [← hu]
 by_cases c : t < 0
 ·rw [if_pos c, wrap_small (by omega) (by omega), tmod_pos _ _ (by omega), Int.emod_eq_of_lt (by omega) (by omega)]
 ·rw [if_neg c, tmod_pos _ _ (by omega), Int.add_emod_right, Int.emod_eq_of_lt (by omega) (by omega)]
theorem specHartNew_eq (x : Int) : spec_HartNew.f x = some ([0, 0, 0, 0], x % 24, 0) := by
 unfold spec_HartNew.f
 rw [l9Addr_eq]; rfl
theorem newHart_ok (x : Int) : hartB [0, 0, 0, 0] (x % 24) 0 = true := by
 have h1 : 0 ≤ x % 24 ∧ x % 24 ≤ 23 := by omega
 unfold hartB wordsB
 rw [decide_eq_true h1]; rfl
theorem drawHart_l0 (c : List Int) (pc st : Int) : ∀ (d j : Nat) (r : List Int) (i s : Int) (k : Nat), curOk c i → r.length = 4 → j + d = 4 → d < k → ∃ r' p' t' i' s', spec_l9DrawHart.l0 k (j : Int) c i s r pc st = some (r', p', t', i', s') ∧ r'.length ≤ 4 ∧ curOk c i'
 | 0, j, r, i, s, k, h, hr, hj, hk => by
  obtain ⟨k, rfl⟩ : ∃ q, k = q + 1 := ⟨k - 1, by omega⟩
  obtain ⟨v, i1, s1, e1, _, _, c1⟩ := l1Below_ex c i s h 12 (by omega) (by omega)
  obtain ⟨v2, i2, s2, e2, _, _, c2⟩ := l1Below_ex c i1 s1 c1 5 (by omega) (by omega)
  obtain ⟨v3, i3, s3, e3, _, c3⟩ := l1PickInt_ex c i1 s1 c1 [(-1), 65536] (by simp) (by simp)
  obtain ⟨v4, i4, s4, e4, _, c4⟩ := l1PickInt_ex c i1 s1 c1 [(-1), 24] (by simp) (by simp)
  simp only [spec_l9DrawHart.l0]
  rw [if_neg (by omega)]
  simp only [e1, e2, e3, e4, Option.bind_some]
  by_cases h0 : v = 0
  ·rw [if_pos h0]; exact ⟨_, _, _, _, _, rfl, by omega, c2⟩
  ·rw [if_neg h0]
   by_cases h1 : v = 1
   ·rw [if_pos h1, if_pos (by omega)]; exact ⟨_, _, _, _, _, rfl, by rw [List.length_set]; omega, c3⟩
   ·rw [if_neg h1]
    by_cases h2 : v = 2
    ·rw [if_pos h2]; exact ⟨_, _, _, _, _, rfl, by omega, c4⟩
    ·rw [if_neg h2]
     by_cases h3 : v = 3
     ·rw [if_pos h3, if_pos (by omega)]; exact ⟨_, _, _, _, _, rfl, by rw [List.length_drop]; omega, c1⟩
     ·rw [if_neg h3]; exact ⟨_, _, _, _, _, rfl, by omega, c1⟩
 | d + 1, j, r, i, s, k, h, hr, hj, hk => by
  obtain ⟨k, rfl⟩ : ∃ q, k = q + 1 := ⟨k - 1, by omega⟩
  obtain ⟨v, i1, s1, e1, _, c1⟩ := l1PickInt_ex c i s h [0, 1, 2, 20, 65535] (by simp) (by simp)
  simp only [spec_l9DrawHart.l0]
  rw [if_pos (by omega), e1, Option.bind_some, if_pos (by omega), if_pos (by omega), wrap_succ (by omega)]
  exact drawHart_l0 c pc st d (j + 1) _ i1 s1 k c1 (by rw [List.length_set]; exact hr) (by omega) (by omega)
theorem drawHart_ex (c : List Int) (i s : Int) (h : curOk c i) (k : Nat) (hk : 10 < k) : ∃ r p t i' s', spec_l9DrawHart.f k c i s = some (r, p, t, i', s') ∧ r.length ≤ 4 ∧ curOk c i' := by
 unfold spec_l9DrawHart.f
 obtain ⟨v, i1, s1, e1, _, _, c1⟩ := l1Below_ex c i s h 20 (by omega) (by omega)
 rw [e1, Option.bind_some, specHartNew_eq, Option.bind_some]
 exact drawHart_l0 c _ _ 4 0 _ i1 s1 k c1 rfl (by omega) (by omega)
def runOk (m : List Int) (hs : List S80) (o : List Int) : Prop := wordsB m 24 = true ∧ (1 ≤ hs.length ∧ hs.length ≤ 3) ∧ (∀ h ∈ hs, hartB h.f0 h.f1 h.f2 = true) ∧ o.length ≤ 100 ∧ ∀ x ∈ o, 0 ≤ x ∧ x < (hs.length : Int)
theorem drawRun_l1 (c : List Int) (most : Int) (hmost : 1 ≤ most ∧ most ≤ 100) (m : List Int) (hs : List S80) (hm : wordsB m 24 = true) (hl : 1 ≤ hs.length ∧ hs.length ≤ 3) (hh : ∀ h ∈ hs, hartB h.f0 h.f1 h.f2 = true) : ∀ (d j : Nat) (o : List Int) (i s : Int) (k : Nat), curOk c i → o.length = j → (∀ x ∈ o, 0 ≤ x ∧ x < (hs.length : Int)) → j + d = 100 → 10 + d < k →
  ∃ o' i' s', spec_l18DrawRun.l1 k most m hs o (j : Int) c i s = some (m, hs, o', i', s') ∧ runOk m hs o' ∧ curOk c i'
 | d, j, o, i, s, k, h, hj, ho, hd, hk => by
  obtain ⟨k, rfl⟩ : ∃ q, k = q + 1 := ⟨k - 1, by omega⟩
  obtain ⟨v, i1, s1, e1, p1, q1, c1⟩ := l1Below_ex c i s h most (by omega) (by omega)
  simp only [spec_l18DrawRun.l1]
  rw [e1, Option.bind_some]
  dsimp only
  by_cases hc : (j : Int) < v
  ·match d, hd, hk with
   | 0, hd, _ => omega
   | d + 1, hd, hk =>
    obtain ⟨v2, i2, s2, e2, p2, q2, c2⟩ := l1Below_ex c i1 s1 c1 (hs.length : Int) (by omega) (by omega)
    rw [if_pos hc, e2, Option.bind_some]
    dsimp only
    rw [if_pos (by omega), wrap_succ (by omega)]
    exact drawRun_l1 c most hmost m hs hm hl hh d (j + 1) _ i2 s2 k c2 (by rw [List.length_append, hj]; rfl) (fun x hx => by
     rcases List.mem_append.1 hx with hx | hx
     ·exact ho x hx
     ·rw [List.mem_singleton] at hx; subst hx; exact ⟨p2, q2⟩) (by omega) (by omega)
  ·rw [if_neg hc]
   exact ⟨_, _, _, rfl, ⟨hm, hl, hh, by omega, ho⟩, c1⟩
theorem drawRun_l0 (c : List Int) (most : Int) (hmost : 1 ≤ most ∧ most ≤ 100) (m : List Int) (hm : wordsB m 24 = true) : ∀ (d j : Nat) (hs : List S80) (i s : Int) (k : Nat), curOk c i → hs.length = j → (∀ h ∈ hs, hartB h.f0 h.f1 h.f2 = true) → j + d = 3 → 300 + d < k →
  ∃ hs' o' i' s', spec_l18DrawRun.l0 k most m hs (j : Int) c i s = some (m, hs', o', i', s') ∧ runOk m hs' o' ∧ curOk c i'
 | d, j, hs, i, s, k, h, hj, hh, hd, hk => by
  obtain ⟨k, rfl⟩ : ∃ q, k = q + 1 := ⟨k - 1, by omega⟩
  obtain ⟨v, i1, s1, e1, p1, q1, c1⟩ := l1Below_ex c i s h 3 (by omega) (by omega)
  simp only [spec_l18DrawRun.l0]
  rw [e1, Option.bind_some]
  dsimp only
  rw [wrap_small (x := 1 + v) (by omega) (by omega)]
  by_cases hc : (j : Int) < 1 + v
  ·match d, hd, hk with
   | 0, hd, _ => omega
   | d + 1, hd, hk =>
    obtain ⟨r, p, t, i2, s2, e2, hr, c2⟩ := drawHart_ex c i1 s1 c1 k (by omega)
    rw [if_pos hc, e2, Option.bind_some]
    dsimp only
    rw [specHartOk_eq r p t (by omega) k (by omega), Option.bind_some]
    have more : ∀ (z : S80) (i s : Int), hartB z.f0 z.f1 z.f2 = true → curOk c i → ∃ hs' o' i' s', spec_l18DrawRun.l0 k most m (hs ++ [z]) ((j + 1 : Nat) : Int) c i s = some (m, hs', o', i', s') ∧ runOk m hs' o' ∧ curOk c i' := fun z i s hz hci =>
     drawRun_l0 c most hmost m hm d (j + 1) _ i s k hci (by rw [List.length_append, hj]; rfl) (fun x hx => by
      rcases List.mem_append.1 hx with hx | hx
      ·exact hh x hx
      ·rw [List.mem_singleton] at hx; subst hx; exact hz) (by omega) (by omega)
    by_cases hb : hartB r p t = true
    ·rw [if_pos hb, if_pos (by omega), wrap_succ (by omega)]
     exact more _ _ _ hb c2
    ·obtain ⟨v3, i3, s3, e3, _, _, c3⟩ := l1Below_ex c i2 s2 c2 20 (by omega) (by omega)
     rw [if_neg hb, e3, Option.bind_some, specHartNew_eq, Option.bind_some, if_pos (by omega), wrap_succ (by omega)]
     exact more _ _ _ (newHart_ok _) c3
  ·rw [if_neg hc]
   obtain ⟨o', i2, s2, e2, hok, c2⟩ := drawRun_l1 c most hmost m hs hm (by omega) hh 100 0 [] i1 s1 k c1 rfl (by simp) (by omega) (by omega)
   exact ⟨_, _, _, _, e2, hok, c2⟩
theorem drawRun_ex (c : List Int) (i s : Int) (h : curOk c i) (most : Int) (hmost : 1 ≤ most ∧ most ≤ 100) (k : Nat) (hk : 400 < k) : ∃ m hs o i' s', spec_l18DrawRun.f k c i s most = some (m, hs, o, i', s') ∧ runOk m hs o ∧ curOk c i' := by
 unfold spec_l18DrawRun.f
 obtain ⟨m, i1, s1, e1, hm, c1⟩ := drawMemW_ex c i s h k (by omega)
 rw [e1, Option.bind_some]
 dsimp only
 obtain ⟨hs, o, i2, s2, e2, hok, c2⟩ := drawRun_l0 c most hmost m hm 3 0 [] i1 s1 k c1 rfl (by simp) (by omega) (by omega)
 exact ⟨_, _, _, _, _, e2, hok, c2⟩
theorem drawEvent_ex (c : List Int) (i s : Int) (h : curOk c i) : ∃ a b d e f i' s', spec_l19DrawEvent.f c i s = some (a, b, d, e, f, i', s') ∧ evD ⟨a, b, d, e, f⟩ ∧ curOk c i' := by
 unfold spec_l19DrawEvent.f evD
 obtain ⟨v0, i0, s0, e0, p0, q0, c0⟩ := l1Below_ex c i s h 3 (by omega) (by omega)
 obtain ⟨v1, i1, s1, e1, p1, q1, c1⟩ := l1Below_ex c i0 s0 c0 6 (by omega) (by omega)
 obtain ⟨v2, i2, s2, e2, p2, q2, c2⟩ := l1Below_ex c i1 s1 c1 4 (by omega) (by omega)
 obtain ⟨v3, i3, s3, e3, p3, q3, c3⟩ := l1Below_ex c i2 s2 c2 6 (by omega) (by omega)
 obtain ⟨v4, i4, s4, e4, p4, q4, c4⟩ := l1Below_ex c i3 s3 c3 4 (by omega) (by omega)
 obtain ⟨v5, i5, s5, e5, p5, q5, c5⟩ := l1Below_ex c i4 s4 c4 4 (by omega) (by omega)
 simp only [e0, e1, e2, e3, e4, e5, Option.bind_some]
 by_cases h0 : v2 = 0
 ·rw [if_pos h0]; exact ⟨_, _, _, _, _, _, _, rfl, by (try dsimp only); omega, c4⟩
 rw [if_neg h0]
 by_cases h1 : v2 = 1
 ·rw [if_pos h1]; exact ⟨_, _, _, _, _, _, _, rfl, by (try dsimp only); omega, c4⟩
 rw [if_neg h1]
 by_cases h2 : v2 = 2
 ·rw [if_pos h2]; exact ⟨_, _, _, _, _, _, _, rfl, by (try dsimp only); omega, c5⟩
 rw [if_neg h2]; exact ⟨_, _, _, _, _, _, _, rfl, by (try dsimp only); omega, c2⟩
theorem sameEvents_refl (l : List Ev) (hl : l.length ≤ 1000000) (k : Nat) (hk : l.length < k) : laws_sameEvents.f k l l = some true := by
 unfold laws_sameEvents.f
 rw [if_pos rfl]
 refine for_st l.length (fun k i (_ : Unit) => laws_sameEvents.l0 k l l (i : Int)) (fun _ => ()) true ?_ ?_ k 0 (Nat.zero_le _) (by omega)
 ·intro k i hi
  simp only [laws_sameEvents.l0]
  rw [if_pos (by omega), if_pos (by omega), if_pos (by omega), if_neg (by simp), wrap_succ (by omega)]
 ·intro k
  simp only [laws_sameEvents.l0]
  rw [if_neg (by omega)]
theorem toList_loop (s : ByteArray) : ∀ (n i : Nat) (r : List UInt8), i + n = s.size → ByteArray.toList.loop s i r = r.reverse ++ s.data.toList.drop i
 | 0, i, r, h => by
  unfold ByteArray.toList.loop
  rw [if_neg (by omega), List.drop_eq_nil_of_le (by rw [size_list]; omega), List.append_nil]
 | n + 1, i, r, h => by
  have hi : i < s.data.toList.length := by rw [size_list]; omega
  unfold ByteArray.toList.loop
  rw [if_pos (by omega), toList_loop s n (i + 1) _ (by omega), List.drop_eq_getElem_cons hi, List.reverse_cons, List.append_assoc]
  congr 1
  show [s.get! i] ++ _ = _
  have e : s.get! i = s.data.toList[i] := by
   have h2 : i < s.data.size := by simpa using hi
   show s.data[i]! = _
   rw [getElem!_pos s.data i h2, Array.getElem_toList]
  rw [e]; rfl
theorem toList_data (s : ByteArray) : s.toList = s.data.toList := by
 unfold ByteArray.toList
 rw [toList_loop s s.size 0 [] (by omega)]; simp
theorem ba_ext {s t : ByteArray} (h : s.data.toList = t.data.toList) : s = t := by
 apply ByteArray.ext; apply Array.ext'; exact h
theorem toList_inj {s t : ByteArray} (h : s.toList = t.toList) : s = t := by
 rw [toList_data, toList_data] at h; exact ba_ext h
theorem app_data (a b : ByteArray) : (a ++ b).data.toList = a.data.toList ++ b.data.toList := by simp [ByteArray.data_append]
def joinL (c : UInt8) : List (List UInt8) → List UInt8
 | [] => []
 | [x] => x
 | x :: y :: r => x ++ c :: joinL c (y :: r)
theorem joinL_cons (c : UInt8) (x : List UInt8) (l : List (List UInt8)) (h : l ≠ []) : joinL c (x :: l) = x ++ c :: joinL c l := by
 cases l with
 | nil => exact absurd rfl h
 | cons y r => rfl
theorem cutA_ne (c : UInt8) (l acc : List UInt8) : cutA c acc l ≠ [] := fun h => by have := cutA_len c l acc; rw [h] at this; simp at this
theorem joinL_cut (c : UInt8) : ∀ (l acc : List UInt8), joinL c (cutA c acc l) = acc ++ l
 | [], acc => by simp [cutA, joinL]
 | b :: l, acc => by
  rw [cutA_cons]
  by_cases h : b = c
  ·rw [if_pos h, joinL_cons c _ _ (cutA_ne c l []), joinL_cut c l [], h]; rfl
  ·rw [if_neg h, joinL_cut c l]; simp
theorem cutA_word (c : UInt8) : ∀ (w acc r : List UInt8), c ∉ w → cutA c acc (w ++ c :: r) = (acc ++ w) :: cutA c [] r
 | [], acc, r, _ => by simp [cutA_cons]
 | b :: w, acc, r, h => by
  rw [List.cons_append, cutA_cons, if_neg (fun e => h (by simp [e])), cutA_word c w _ r (fun q => h (List.mem_cons_of_mem _ q))]; simp
theorem cutA_last (c : UInt8) : ∀ (w acc : List UInt8), c ∉ w → cutA c acc w = [acc ++ w]
 | [], acc, _ => by simp [cutA]
 | b :: w, acc, h => by
  rw [cutA_cons, if_neg (fun e => h (by simp [e])), cutA_last c w _ (fun q => h (List.mem_cons_of_mem _ q))]; simp
theorem cutA_join (c : UInt8) : ∀ (ws : List (List UInt8)), ws ≠ [] → (∀ w ∈ ws, c ∉ w) → cutA c [] (joinL c ws) = ws
 | [], h, _ => absurd rfl h
 | [x], _, h => by rw [joinL, cutA_last c x [] (h x (by simp))]; rfl
 | x :: y :: r, _, h => by
  rw [joinL, cutA_word c x [] _ (h x (by simp)), cutA_join c (y :: r) (by simp) (fun w hw => h w (List.mem_cons_of_mem _ hw))]; rfl
theorem joinB_data (c : UInt8) : ∀ (ws : List ByteArray), (joinB ws (⟨#[c]⟩ : ByteArray)).data.toList = joinL c (ws.map fun w => w.data.toList)
 | [] => by simp [joinB, joinL, Lib.join]
 | [x] => by rw [joinB_one]; rfl
 | x :: y :: r => by
  rw [joinB_more, app_data, app_data, joinB_data c (y :: r)]
  simp [joinL]
theorem cutB_joinB (c : UInt8) (ws : List ByteArray) (hn : ws ≠ []) (h : ∀ w ∈ ws, c ∉ w.data.toList) : cutB (joinB ws (⟨#[c]⟩ : ByteArray)) c = ws := by
 unfold cutB
 rw [joinB_data, cutA_join c _ (by simpa using hn) (fun w hw => by obtain ⟨x, hx, rfl⟩ := List.mem_map.1 hw; exact h x hx), List.map_map]
 exact List.map_id'' (fun x => ba_ext rfl) ws
theorem joinB_cutB (s : ByteArray) (c : UInt8) : joinB (cutB s c) (⟨#[c]⟩ : ByteArray) = s := by
 apply ba_ext
 rw [joinB_data]
 unfold cutB
 rw [List.map_map]
 have : (cutA c [] s.data.toList).map ((fun w : ByteArray => w.data.toList) ∘ byB) = cutA c [] s.data.toList := List.map_id'' (fun _ => rfl) _
 rw [this, joinL_cut]; rfl
-- ---- digits
theorem u8_dig (d : Nat) (h : d < 10) : (UInt8.ofNat (48 + d)).toNat = 48 + d := by
 rw [UInt8.toNat_ofNat']; omega
theorem dgF_mem : ∀ (f n : Nat) (b : UInt8), b ∈ (dgF f n).data.toList → 48 ≤ b.toNat ∧ b.toNat ≤ 57
 | 0, n, b, h => by simp [dgF] at h
 | f + 1, n, b, h => by
  unfold dgF at h
  by_cases c : n < 10
  ·rw [if_pos c] at h
   have hb : b = UInt8.ofNat (48 + n) := by simpa using h
   have := u8_dig n c
   rw [hb]; omega
  ·rw [if_neg c, app_data, List.mem_append] at h
   rcases h with h | h
   ·exact dgF_mem f _ b h
   ·have hb : b = UInt8.ofNat (48 + n % 10) := by simpa using h
    have := u8_dig (n % 10) (by omega)
    rw [hb]; omega
theorem bt_app (a b : ByteArray) (i : Nat) (h : i < a.size) : bt (a ++ b) (i : Int) = bt a (i : Int) := by
 have h1 : i < a.data.toList.length := h
 have h2 : i < (a ++ b).data.toList.length := by rw [app_data, List.length_append]; omega
 rw [bt_list a i h1, bt_list _ i h2]
 congr 2
 simp only [app_data]
 rw [List.getElem_append_left]
theorem valB_app (a b : ByteArray) : ∀ i, i ≤ a.size → valB (a ++ b) i = valB a i
 | 0, _ => rfl
 | i + 1, h => by rw [valB_succ, valB_succ, valB_app a b i (by omega), bt_app a b i (by omega)]
theorem digsB_app (a b : ByteArray) : ∀ i, i ≤ a.size → digsB (a ++ b) i = digsB a i
 | 0, _ => rfl
 | i + 1, h => by
  rw [digsB_succ, digsB_succ, digsB_app a b i (by omega)]
  unfold digB; rw [bt_app a b i (by omega)]
theorem one_app (a : ByteArray) (d : Nat) (hd : d < 10) : bt (a ++ ⟨#[UInt8.ofNat (48 + d)]⟩) (a.size : Int) = 48 + (d : Int) := by
 have h2 : a.size < (a ++ (⟨#[UInt8.ofNat (48 + d)]⟩ : ByteArray)).data.toList.length := by rw [app_data, List.length_append]; show _ < a.size + 1; omega
 rw [bt_list _ _ h2]
 simp only [app_data]
 rw [List.getElem_append_right (by rw [size_list]; omega)]
 have := u8_dig d hd
 simp only [size_list, Nat.sub_self]
 show ((UInt8.ofNat (48 + d)).toNat : Int) = _
 omega
theorem dgF_val : ∀ (f n : Nat), 0 < f → n < 10 ^ f → digsB (dgF f n) (dgF f n).size = true ∧ valB (dgF f n) (dgF f n).size = (n : Int) ∧ 1 ≤ (dgF f n).size
 | 0, n, h, _ => by omega
 | f + 1, n, _, h => by
  unfold dgF
  by_cases c : n < 10
  ·rw [if_pos c]
   have e := one_app ⟨#[]⟩ n c
   have e2 : (⟨#[]⟩ : ByteArray) ++ (⟨#[UInt8.ofNat (48 + n)]⟩ : ByteArray) = ⟨#[UInt8.ofNat (48 + n)]⟩ := ByteArray.empty_append
   rw [e2] at e
   have e3 : bt (⟨#[UInt8.ofNat (48 + n)]⟩ : ByteArray) ((0 : Nat) : Int) = 48 + (n : Int) := e
   refine ⟨?_, ?_, Nat.le_refl _⟩
   ·show digsB _ (0 + 1) = true
    rw [digsB_succ]
    unfold digB
    rw [e3, decide_eq_true (by omega)]; rfl
   ·show valB _ (0 + 1) = _
    rw [valB_succ, e3]; show 10 * 0 + _ = _; omega
  ·rw [if_neg c]
   have hf : 0 < f := by
    rcases Nat.eq_zero_or_pos f with e | e
    ·subst e; simp at h; omega
    ·exact e
   have hp : n / 10 < 10 ^ f := by rw [Nat.pow_succ] at h; omega
   obtain ⟨i1, i2, i3⟩ := dgF_val f (n / 10) hf hp
   have hs : (dgF f (n / 10) ++ (⟨#[UInt8.ofNat (48 + n % 10)]⟩ : ByteArray)).size = (dgF f (n / 10)).size + 1 := by rw [ByteArray.size_append]; rfl
   have e := one_app (dgF f (n / 10)) (n % 10) (by omega)
   rw [hs, digsB_succ, valB_succ, digsB_app _ _ _ (Nat.le_refl _), valB_app _ _ _ (Nat.le_refl _), i1, i2]
   unfold digB
   rw [e, decide_eq_true (by omega)]
   exact ⟨rfl, by omega, by omega⟩
theorem dgF_short : ∀ (f n j : Nat), 0 < j → n < 10 ^ j → (dgF f n).size ≤ j
 | 0, n, j, _, _ => Nat.zero_le _
 | f + 1, n, j, hj, h => by
  unfold dgF
  by_cases c : n < 10
  ·rw [if_pos c]; exact hj
  ·rw [if_neg c, ByteArray.size_append]
   obtain ⟨j, rfl⟩ : ∃ q, j = q + 1 := ⟨j - 1, by omega⟩
   have hj0 : 0 < j := by
    rcases Nat.eq_zero_or_pos j with e | e
    ·subst e; simp at h; omega
    ·exact e
   have := dgF_short f (n / 10) j hj0 (by rw [Nat.pow_succ] at h; omega)
   show _ + 1 ≤ _; omega
theorem signText_mem (n : Int) (b : UInt8) (h : b ∈ (signText n).data.toList) : b.toNat = 45 ∨ 48 ≤ b.toNat ∧ b.toNat ≤ 57 := by
 unfold signText at h
 split at h
 ·left; have : b = 45 := by simpa using h
  rw [this]; rfl
 ·exact .inr (dgF_mem 20 _ b h)
theorem signText_no (n : Int) (c : UInt8) (hc : c.toNat < 45) : c ∉ (signText n).data.toList := fun h => by
 have := signText_mem n c h; omega
theorem numV_sign (n : Int) (h0 : -1 ≤ n) (h1 : n ≤ 65535) : numV (signText n) = n := by
 unfold numV signText
 by_cases h : n < 0
 ·rw [if_pos h, if_pos (by rw [toList_data])]; omega
 ·obtain ⟨v1, v2, v3⟩ := dgF_val 20 n.toNat (by omega) (by omega)
  have v4 := dgF_short 20 n.toNat 5 (by omega) (by omega)
  rw [if_neg h]
  show (if (dg n.toNat).toList = ([45] : List UInt8) then (-1 : Int) else _) = n
  rw [if_neg (fun e => by
   have hm := dgF_mem 20 n.toNat 45 (by rw [toList_data] at e; show (45 : UInt8) ∈ (dg n.toNat).data.toList; rw [e]; simp)
   have : (45 : UInt8).toNat = 45 := rfl
   omega)]
  have e : valB (dg n.toNat) (dg n.toNat).size = (n.toNat : Int) := v2
  have e1 : digsB (dg n.toNat) (dg n.toNat).size = true := v1
  have e2 : (dg n.toNat).size ≤ 5 := v4
  have e3 : 1 ≤ (dg n.toNat).size := v3
  unfold okNum
  rw [e, e1, decide_eq_true e2, decide_eq_true e3, Int.toNat_natCast, decide_eq_true rfl, decide_eq_true (by omega)]
  simp only [Bool.and_self, if_true]
  omega
theorem numV_bd (p : ByteArray) : numV p ≤ 65535 := by
 unfold numV
 split
 ·omega
 ·split
  ·rename_i h; rw [Bool.and_eq_true] at h; exact of_decide_eq_true h.2
  ·omega
theorem sign_numV (p : ByteArray) (h : -1 ≤ numV p) : signText (numV p) = p := by
 unfold numV at h ⊢
 by_cases c : p.toList = ([45] : List UInt8)
 ·rw [if_pos c]
  apply toList_inj
  rw [c, toList_data]; rfl
 ·rw [if_neg c] at h ⊢
  by_cases o : (okNum p && decide (valB p p.size ≤ 65535)) = true
  ·rw [if_pos o]
   rw [Bool.and_eq_true] at o
   have o1 := o.1
   unfold okNum at o1
   simp only [Bool.and_eq_true, decide_eq_true_eq] at o1
   have hb := (valB_bd p p.size o1.1).1
   unfold signText
   rw [if_neg (by omega)]
   exact toList_inj o1.2.2.2
  ·rw [if_neg o] at h; omega
-- ---- events
def evFine (x : S31) : Prop := (0 ≤ x.f0 ∧ x.f0 ≤ 99) ∧ (0 ≤ x.f1 ∧ x.f1 ≤ 99) ∧ (-1 ≤ x.f2 ∧ x.f2 ≤ 65535) ∧ (-1 ≤ x.f3 ∧ x.f3 ≤ 65535) ∧ (-1 ≤ x.f4 ∧ x.f4 ≤ 65535)
theorem evT_cut (x : S31) : cutB (evT x) 32 = [signText x.f0, signText x.f1, signText x.f2, signText x.f3, signText x.f4] := by
 unfold evT eventT
 rw [cutB_joinB 32 _ (by simp) (fun w hw => by obtain ⟨n, _, rfl⟩ := List.mem_map.1 hw; exact signText_no n 32 (by decide))]; rfl
theorem evT_ok (x : S31) (h : evFine x) : evB (evT x) = true ∧ evS (evT x) = x := by
 obtain ⟨h0, h1, h2, h3, h4⟩ := h
 have n0 := numV_sign x.f0 (by omega) (by omega)
 have n1 := numV_sign x.f1 (by omega) (by omega)
 have n2 := numV_sign x.f2 (by omega) (by omega)
 have n3 := numV_sign x.f3 (by omega) (by omega)
 have n4 := numV_sign x.f4 (by omega) (by omega)
 have hb : evB (evT x) = true := by
  unfold evB
  rw [evT_cut]
  have r : List.range 5 = [0, 1, 2, 3, 4] := rfl
  rw [r]
  simp [fitB, n0, n1, n2, n3, n4]; omega
 refine ⟨hb, ?_⟩
 unfold evS evV
 simp only [hb, if_true, evT_cut]
 show (⟨numV (signText x.f0), numV (signText x.f1), numV (signText x.f2), numV (signText x.f3), numV (signText x.f4)⟩ : S31) = x
 rw [n0, n1, n2, n3, n4]
theorem evS_text (p : ByteArray) (h : evB p = true) : evT (evS p) = p ∧ evOk (evS p) := by
 have h2 := h
 unfold evB at h2
 rw [Bool.and_eq_true] at h2
 have h5 : (cutB p 32).length = 5 := of_decide_eq_true h2.1
 have hf := fun i hi => List.all_eq_true.1 h2.2 i (List.mem_range.2 hi)
 have lo : ∀ i, i < 5 → -1 ≤ numV ((cutB p 32).getD i ByteArray.empty) := fun i hi => by
  have := hf i hi
  unfold fitB at this
  split at this
  ·have := of_decide_eq_true this; omega
  ·exact of_decide_eq_true this
 have s := fun i hi => sign_numV _ (lo i hi)
 constructor
 ·have hw : cutB p 32 = [(cutB p 32).getD 0 ByteArray.empty, (cutB p 32).getD 1 ByteArray.empty, (cutB p 32).getD 2 ByteArray.empty, (cutB p 32).getD 3 ByteArray.empty, (cutB p 32).getD 4 ByteArray.empty] := by
   generalize cutB p 32 = l at h5
   match l, h5 with
   | [a, b, c, d, e], _ => rfl
  unfold evT evS eventT evV
  simp only [h, if_true, List.map_cons, List.map_nil]
  rw [s 0 (by omega), s 1 (by omega), s 2 (by omega), s 3 (by omega), s 4 (by omega), ← hw, joinB_cutB]
 ·unfold evOk evS evV
  simp only [h, if_true]
  intro y hy
  have nb := fun i => numV_bd ((cutB p 32).getD i ByteArray.empty)
  have b0 := nb 0; have b1 := nb 1; have b2 := nb 2; have b3 := nb 3; have b4 := nb 4
  simp only [List.mem_cons, List.not_mem_nil, or_false] at hy
  rcases hy with rfl | rfl | rfl | rfl | rfl <;> omega
def catL (ws : List (List UInt8)) : List UInt8 := ws.flatMap fun w => w ++ [10]
theorem joinL_cat : ∀ ws : List (List UInt8), joinL 10 (ws ++ [[]]) = catL ws
 | [] => rfl
 | w :: ws => by
  rw [List.cons_append, joinL_cons 10 w _ (by simp), joinL_cat ws]
  simp [catL]
theorem traceT_data (l : List S31) : ∀ n, n ≤ l.length → (traceT l n).data.toList = catL ((l.take n).map fun e => (evT e).data.toList)
 | 0, _ => by simp [traceT, catL]
 | n + 1, h => by
  have hn : n < l.length := by omega
  unfold traceT
  rw [app_data, app_data, traceT_data l n (by omega), ← snoc_step l n hn, rdEvent l n hn]
  unfold catL
  rw [List.map_append, List.flatMap_append]
  simp only [List.map_cons, List.map_nil, List.flatMap_cons, List.flatMap_nil, List.append_nil]
theorem text_data (l : List S31) (h : l.length ≤ 60) : (traceText l).data.toList = joinL 10 ((l.map fun e => (evT e).data.toList) ++ [[]]) := by
 unfold traceText
 rw [if_pos h, traceT_data l _ (Nat.le_refl _), List.take_length, joinL_cat]
theorem evT_no (x : S31) : (10 : UInt8) ∉ (evT x).data.toList := by
 unfold evT eventT
 rw [joinB_data]
 simp only [List.map_cons, List.map_nil, joinL, List.mem_append, List.mem_cons]
 have s := fun n => signText_no n 10 (by decide)
 have h32 : ¬ (10 : UInt8) = 32 := by decide
 simp [s, h32]
theorem text_cut (l : List S31) (h : l.length ≤ 60) : cutB (traceText l) 10 = l.map evT ++ [ByteArray.empty] := by
 unfold cutB
 rw [text_data l h, cutA_join 10 _ (by simp) (fun w hw => by
  rcases List.mem_append.1 hw with hw | hw
  ·obtain ⟨x, _, rfl⟩ := List.mem_map.1 hw; exact evT_no x
  ·rw [List.mem_singleton.1 hw]; simp), List.map_append, List.map_map]
 rfl
theorem runT_fine : ∀ (l out : List S31), (∀ e ∈ l, evFine e) → out.length + l.length ≤ 60 → runT out (l.map evT ++ [ByteArray.empty]) = (out ++ l, true)
 | [], out, _, _ => by
  show runT out [ByteArray.empty] = _
  unfold runT
  rw [if_pos (show ByteArray.empty.size = 0 from rfl), List.append_nil]
 | e :: l, out, h, hl => by
  obtain ⟨e1, e2⟩ := evT_ok e (h e (by simp))
  have ih := runT_fine l (out ++ [e]) (fun x hx => h x (List.mem_cons_of_mem _ hx)) (by simp at hl ⊢; omega)
  rw [List.map_cons, List.cons_append]
  cases hr : l.map evT ++ [ByteArray.empty] with
  | nil => simp at hr
  | cons b r =>
   rw [hr] at ih
   unfold runT
   rw [if_pos e1, if_neg (by simp at hl; omega), e2, ih, List.append_assoc]; rfl
theorem runT_back : ∀ (ps : List ByteArray) (out : List S31), (runT out ps).2 = true → out.length ≤ 60 → ∃ es, (runT out ps).1 = out ++ es ∧ (out ++ es).length ≤ 60 ∧ ps = es.map evT ++ [ByteArray.empty] ∧ ∀ e ∈ es, evOk e
 | [], out, h, _ => by simp [runT] at h
 | [p], out, h, ho => by
  unfold runT at h ⊢
  by_cases c : p.size = 0
  ·rw [if_pos c]
   have : p = ByteArray.empty := ba_ext (by
    have h0 : p.data.toList.length = 0 := c
    rw [List.eq_nil_of_length_eq_zero h0]; rfl)
   exact ⟨[], by simp, by simpa using ho, by rw [this]; rfl, by simp⟩
  ·rw [if_neg c] at h; simp at h
 | p :: q :: r, out, h, ho => by
  unfold runT at h ⊢
  by_cases c : evB p = true
  ·rw [if_pos c] at h ⊢
   by_cases c60 : out.length = 60
   ·rw [if_pos c60] at h; simp at h
   ·rw [if_neg c60] at h ⊢
    obtain ⟨es, h1, h2, h3, h4⟩ := runT_back (q :: r) (out ++ [evS p]) h (by simp; omega)
    obtain ⟨t1, t2⟩ := evS_text p c
    refine ⟨evS p :: es, by rw [h1, List.append_assoc]; rfl, by rw [List.append_assoc] at h2; exact h2, by rw [List.map_cons, t1, List.cons_append, ← h3], fun e he => ?_⟩
    rcases List.mem_cons.1 he with rfl | he
    ·exact t2
    ·exact h4 e he
  ·rw [if_neg c] at h; simp at h
theorem read_text (s : ByteArray) (h : (runT [] (cutB s 10)).2 = true) : traceText (runT [] (cutB s 10)).1 = s ∧ ∀ e ∈ (runT [] (cutB s 10)).1, evOk e := by
 obtain ⟨es, h1, h2, h3, h4⟩ := runT_back _ _ h (by simp)
 rw [List.nil_append] at h1 h2
 rw [h1]
 refine ⟨ba_ext ?_, h4⟩
 rw [text_data es h2]
 have e : (es.map fun e => (evT e).data.toList) ++ [[]] = (cutB s 10).map fun w => w.data.toList := by
  rw [h3, List.map_append, List.map_map]; rfl
 rw [e, ← joinB_data, joinB_cutB]
-- ---- draws
def evE (x : S31) : Prop := (-1 ≤ x.f0 ∧ x.f0 ≤ 2) ∧ (0 ≤ x.f1 ∧ x.f1 ≤ 23) ∧ (-1 ≤ x.f2 ∧ x.f2 ≤ 24) ∧ (-1 ≤ x.f3 ∧ x.f3 ≤ 65535) ∧ (-1 ≤ x.f4 ∧ x.f4 ≤ 65535)
theorem evE_of (x : S31) (h : evD x) : evE x := by unfold evD at h; unfold evE; omega
theorem evE_ok (x : S31) (h : evE x) : evOk x := by
 unfold evE at h; unfold evOk
 intro y hy
 simp only [List.mem_cons, List.not_mem_nil, or_false] at hy
 rcases hy with rfl | rfl | rfl | rfl | rfl <;> omega
theorem drawTrace_ex (c : List Int) (i s : Int) (h : curOk c i) (k : Nat) (hk : 4000000 < k) : ∃ m l i' s', spec_l18DrawTrace.f k c i s = some (m, l, i', s') ∧ l.length ≤ 100 ∧ (∀ x ∈ l, evE x) ∧ curOk c i' := by
 obtain ⟨k, rfl⟩ : ∃ q, k = q + 1 := ⟨k - 1, by omega⟩
 unfold spec_l18DrawTrace.f
 obtain ⟨m, hs, o, i1, s1, e1, hok, c1⟩ := drawRun_ex c i s h 24 (by omega) (k + 1) (by omega)
 obtain ⟨hw, hl, hh, ho, hin⟩ := hok
 have tl := traceV_len o (m, hs)
 have hv := traceV_ok o (m, hs) hw hl.2
 rw [e1, Option.bind_some]
 dsimp only
 rw [specTrace_eq m hs o hw (by omega) (fun x hx => by have := (hartB_parts (hh x hx)).1; omega) (k + 1) (by omega), if_pos (by omega), Option.bind_some]
 generalize traceV (m, hs) o = l at tl hv
 have hE : ∀ x ∈ l, evE x := fun x hx => evE_of x (hv x hx)
 by_cases h0 : (l.length : Int) > 0
 ·obtain ⟨on, i2, s2, e2, c2⟩ := l1Once_ex c i1 s1 c1 4 (by omega) (by omega)
  rw [if_pos h0, e2, Option.bind_some, spec_l18DrawTrace.j0]
  dsimp only
  by_cases hon : on = true
  ·obtain ⟨v, i3, s3, e3, p3, q3, c3⟩ := l1Below_ex c i2 s2 c2 (l.length : Int) (by omega) (by omega)
   obtain ⟨u, i4, s4, e4, p4, q4, c4⟩ := l1Below_ex c i3 s3 c3 4 (by omega) (by omega)
   rw [if_pos hon, e3, Option.bind_some]
   dsimp only
   rw [if_pos p3, if_pos q3, e4, Option.bind_some]
   dsimp only
   have hx : evE (rd_T31 l v) := by
    obtain ⟨w, rfl⟩ := Int.eq_ofNat_of_zero_le p3
    rw [rdEvent l w (by omega)]; exact hE _ (List.getElem_mem _)
   have hset : ∀ y, evE y → ∀ x ∈ l.set (v : Int).toNat y, evE x := fun y hy x hx' => by
    rcases List.mem_or_eq_of_mem_set hx' with q | q
    ·exact hE x q
    ·rw [q]; exact hy
   have hlen : ∀ y, (l.set (v : Int).toNat y).length ≤ 100 := fun y => by rw [List.length_set]; omega
   by_cases u0 : u = 0
   ·obtain ⟨z, i5, s5, e5, p5, q5, c5⟩ := l1Below_ex c i4 s4 c4 9 (by omega) (by omega)
    rw [if_pos u0, e5, Option.bind_some]
    refine ⟨_, _, _, _, rfl, hlen _, hset _ ?_, c5⟩
    rw [wrap_small (by dsimp only; omega) (by dsimp only; omega)]
    unfold evE at hx ⊢; dsimp only; omega
   rw [if_neg u0]
   by_cases u1 : u = 1
   ·obtain ⟨z, i5, s5, e5, p5, q5, c5⟩ := l1Below_ex c i4 s4 c4 9 (by omega) (by omega)
    rw [if_pos u1, e5, Option.bind_some]
    refine ⟨_, _, _, _, rfl, hlen _, hset _ ?_, c5⟩
    rw [wrap_small (by dsimp only; omega) (by dsimp only; omega)]
    unfold evE at hx ⊢; dsimp only; omega
   rw [if_neg u1]
   by_cases u2 : u = 2
   ·obtain ⟨z, i5, s5, e5, hm, c5⟩ := l1PickInt_ex c i4 s4 c4 [(-1), 3, 24] (by simp) (by simp)
    rw [if_pos u2, e5, Option.bind_some]
    refine ⟨_, _, _, _, rfl, hlen _, hset _ ?_, c5⟩
    simp at hm
    unfold evE at hx ⊢; dsimp only; omega
   rw [if_neg u2]
   obtain ⟨z, i5, s5, e5, p5, q5, c5⟩ := l1Below_ex c i4 s4 c4 4 (by omega) (by omega)
   rw [e5, Option.bind_some]
   refine ⟨_, _, _, _, rfl, hlen _, hset _ ?_, c5⟩
   rw [wrap_small (by dsimp only; omega) (by dsimp only; omega)]
   unfold evE at hx ⊢; dsimp only; omega
  ·rw [if_neg hon]
   exact ⟨_, _, _, _, rfl, by omega, hE, c2⟩
 ·rw [if_neg h0, spec_l18DrawTrace.j0, if_neg (by simp)]
  exact ⟨_, _, _, _, rfl, by omega, hE, c1⟩
theorem dent_ex (c : List Int) (i s : Int) (h : curOk c i) (a : ByteArray) (ha : a.size ≤ 10000) : ∃ b i' s', spec_l28Dent.f c i s a = some (b, i', s') ∧ b.size ≤ 10010 := by
 unfold spec_l28Dent.f
 rw [wrap_small (by omega) (by omega)]
 obtain ⟨v, i1, s1, e1, p1, q1, c1⟩ := l1Below_ex c i s h ((a.size : Int) + 1) (by omega) (by omega)
 obtain ⟨u, i2, s2, e2, p2, q2, c2⟩ := l1Below_ex c i1 s1 c1 5 (by omega) (by omega)
 rw [e1, Option.bind_some]
 dsimp only
 rw [e2, Option.bind_some]
 dsimp only
 have x1 : (a.extract 0 (v : Int).toNat).size ≤ a.size := by rw [ByteArray.size_extract]; omega
 have x2 : (a.extract (v : Int).toNat a.size).size ≤ a.size - v.toNat := by rw [ByteArray.size_extract]; omega
 have x3 : (a.extract 0 (v : Int).toNat).size ≤ v.toNat := by rw [ByteArray.size_extract]; omega
 by_cases u0 : u = 0
 ·rw [if_pos u0, if_pos p1, if_pos (by omega)]
  exact ⟨_, _, _, rfl, by omega⟩
 rw [if_neg u0]
 by_cases u1 : u = 1
 ·obtain ⟨z, i5, s5, e5, hm, c5⟩ := l1Pick_ex c i2 s2 c2 [(⟨#[32]⟩ : ByteArray), (⟨#[45]⟩ : ByteArray), (⟨#[48]⟩ : ByteArray), (⟨#[10]⟩ : ByteArray), (⟨#[120]⟩ : ByteArray)] (by simp) (by simp)
  have hz : z.size = 1 := by
   simp only [List.mem_cons, List.not_mem_nil, or_false] at hm
   rcases hm with rfl | rfl | rfl | rfl | rfl <;> rfl
  rw [if_pos u1, if_pos p1, if_pos (by omega), e5, Option.bind_some]
  dsimp only
  rw [if_pos (by omega), if_pos (by rw [ByteArray.size_append]; omega)]
  exact ⟨_, _, _, rfl, by rw [ByteArray.size_append, ByteArray.size_append]; omega⟩
 rw [if_neg u1]
 exact ⟨_, _, _, rfl, by omega⟩
theorem text_size (l : List S31) : (traceText l).size ≤ 6360 := by
 unfold traceText
 split
 ·have := traceT_size l l.length; omega
 ·exact Nat.zero_le _
theorem drawRead_l0 (c : List Int) : ∀ (d j : Nat) (l : List S31) (i s : Int) (k : Nat), curOk c i → l.length = j → (∀ x ∈ l, evD x) → j + d = 5 → 2000 + d < k →
  ∃ b, spec_DrawTraceRead.l0 k l (j : Int) c i s = some b ∧ b.size ≤ 10010
 | d, j, l, i, s, k, h, hj, hx, hd, hk => by
  obtain ⟨k, rfl⟩ : ∃ q, k = q + 1 := ⟨k - 1, by omega⟩
  obtain ⟨v, i1, s1, e1, p1, q1, c1⟩ := l1Below_ex c i s h 5 (by omega) (by omega)
  rw [spec_DrawTraceRead.l0, e1, Option.bind_some]
  dsimp only
  by_cases hc : (j : Int) < v
  ·obtain ⟨d, rfl⟩ : ∃ q, d = q + 1 := ⟨d - 1, by omega⟩
   obtain ⟨a, b, d1, e, f, i2, s2, e2, ho, c2⟩ := drawEvent_ex c i1 s1 c1
   rw [if_pos hc, e2, Option.bind_some, if_pos (by omega)]
   dsimp only
   rw [wrap_succ (by omega)]
   refine drawRead_l0 c d (j + 1) _ i2 s2 k c2 (by simp [hj]) (fun x hx' => ?_) (by omega) (by omega)
   rcases List.mem_append.1 hx' with q | q
   ·exact hx x q
   ·rw [List.mem_singleton.1 q]; exact ho
  ·have ht := text_size l
   obtain ⟨b, i3, s3, e3, hb⟩ := dent_ex c i1 s1 c1 (traceText l) (by omega)
   rw [if_neg hc, specTraceText_eq l (fun x h => evE_ok x (evE_of x (hx x h))) k (by omega), Option.bind_some, e3, Option.bind_some]
   exact ⟨_, rfl, hb⟩
theorem stories_l0 (l : List S31) (hE : ∀ x ∈ l, evE x) (hl : l.length ≤ 100) : ∀ (d i k : Nat), i + d = l.length → (∀ j : Nat, j < i → ∀ h : j < l.length, 0 ≤ (l[j]).f0) → 3000000 + d < k → laws_FnStories.l0 k l (traceText l) (i : Int) = some true
 | 0, i, k, hi, hj, hk => by
  obtain ⟨k, rfl⟩ : ∃ q, k = q + 1 := ⟨k - 1, by omega⟩
  have ht := text_size l
  have hr := runT_len (cutB (traceText l) 10) [] (by simp)
  rw [laws_FnStories.l0, if_neg (by omega), implTraceRead_eq _ (by omega) k (by omega), Option.bind_some]
  by_cases c : (l.length : Int) > 60
  ·rw [if_pos c]
  ·have hf : ∀ e ∈ l, evFine e := fun e he => by
    have h1 := hE e he
    obtain ⟨j, hjl, rfl⟩ := List.getElem_of_mem he
    have h2 := hj j (by omega) hjl
    unfold evE at h1; unfold evFine; omega
   rw [if_neg c, text_cut l (by omega), runT_fine l [] hf (by simp; omega), if_pos rfl, List.nil_append, sameEvents_refl l (by omega) k (by omega), Option.bind_some]
 | d + 1, i, k, hi, hj, hk => by
  obtain ⟨k, rfl⟩ : ∃ q, k = q + 1 := ⟨k - 1, by omega⟩
  have hil : i < l.length := by omega
  have hx := hE _ (List.getElem_mem hil)
  unfold evE at hx
  rw [laws_FnStories.l0, if_pos (by omega), if_pos (by omega), rdEvent l i hil]
  by_cases c : (l[i]).f0 < 0
  ·rw [if_pos c]
  ·rw [if_neg c, if_neg (by omega), wrap_succ (by omega)]
   refine stories_l0 l hE hl d (i + 1) k (by omega) (fun j hji hjl => ?_) (by omega)
   by_cases e : j = i
   ·subst e; omega
   ·exact hj j (by omega) hjl
theorem FnStories : laws_FnStories.Pure := by
 intro c _ _ _
 obtain ⟨K, hK⟩ : ∃ K : Nat, 9900000 ≤ K := ⟨_, Nat.le_refl _⟩
 refine ⟨K + 1, ?_⟩
 unfold laws_FnStories.f laws_big.f
 rw [Option.bind_some]
 by_cases hb : (c.length : Int) > 1048576
 ·rw [if_pos (decide_eq_true hb)]
 rw [if_neg (by simpa using hb)]
 obtain ⟨i0, s0, e0, c0⟩ := l1New_ex c (by omega) (K + 1) (by omega)
 have eT : ∃ l, spec_DrawTraceText.f (K + 1) c = some l ∧ l.length ≤ 100 ∧ ∀ x ∈ l, evE x := by
  unfold spec_DrawTraceText.f
  rw [e0, Option.bind_some]
  obtain ⟨m, l, i1, s1, e1, hl, hE, _⟩ := drawTrace_ex c i0 s0 c0 (K + 1) (by omega)
  dsimp only
  rw [e1, Option.bind_some]
  exact ⟨_, rfl, hl, hE⟩
 obtain ⟨l, el, hl, hE⟩ := eT
 have eR : ∃ b, spec_DrawTraceRead.f (K + 1) c = some b ∧ b.size ≤ 10010 := by
  unfold spec_DrawTraceRead.f
  rw [e0, Option.bind_some]
  exact drawRead_l0 c 5 0 [] i0 s0 (K + 1) c0 rfl (by simp) (by omega) (by omega)
 obtain ⟨b, eb, hbs⟩ := eR
 have eV : ∃ a, spec_DrawEventRead.f (K + 1) c = some a ∧ a.size ≤ 10010 := by
  unfold spec_DrawEventRead.f
  rw [e0, Option.bind_some]
  obtain ⟨x0, x1, x2, x3, x4, i1, s1, e1, hD, c1⟩ := drawEvent_ex c i0 s0 c0
  have hok := evE_ok _ (evE_of _ hD)
  have hsz := eventT_size x0 x1 x2 x3 x4
  obtain ⟨a, i2, s2, e2, ha⟩ := dent_ex c i1 s1 c1 (eventT x0 x1 x2 x3 x4) (by omega)
  dsimp only
  rw [e1, Option.bind_some]
  dsimp only
  rw [specEventText_eq x0 x1 x2 x3 x4 hok (K + 1) (by omega), Option.bind_some, e2, Option.bind_some]
  exact ⟨_, rfl, ha⟩
 obtain ⟨a, ea, has⟩ := eV
 have hOk : ∀ x ∈ l, evOk x := fun x hx => evE_ok x (hE x hx)
 have hr := runT_len (cutB b 10) [] (by simp)
 rw [el, Option.bind_some, implTraceText_eq l hOk (K + 1) (by omega), Option.bind_some, eb, Option.bind_some, implTraceRead_eq b (by omega) (K + 1) (by omega), Option.bind_some, specTraceRead_eq b (by omega) (K + 1) (by omega), Option.bind_some, ea, Option.bind_some, implEventRead_eq a (by omega) (K + 1) (by omega), Option.bind_some, specEventRead_eq a (by omega) (K + 1) (by omega), Option.bind_some, specTraceText_eq l hOk (K + 1) (by omega), Option.bind_some, if_pos rfl, if_neg (by simp), sameEvents_refl _ (by omega) (K + 1) (by omega), Option.bind_some, if_pos rfl, if_neg (by simp), if_neg (by simp)]
 have fin : laws_FnStories.j0 (K + 1) l (traceText l) false = some true := by
  rw [laws_FnStories.j0, if_neg (by simp)]
  exact stories_l0 l hE hl l.length 0 K (by omega) (fun j h => by omega) (by omega)
 have ev : evB a = true → impl_EventText.f (K + 1) (evV a 0) (evV a 1) (evV a 2) (evV a 3) (evV a 4) = some a := by
  intro h
  obtain ⟨h1, h2⟩ := evS_text a h
  have h3 : impl_EventText.f (K + 1) (evV a 0) (evV a 1) (evV a 2) (evV a 3) (evV a 4) = some (evT (evS a)) := implEventText_eq _ _ _ _ _ h2 (K + 1) (by omega)
  rw [h3, h1]
 dsimp only
 by_cases hok : (runT [] (cutB b 10)).2 = true
 ·obtain ⟨t1, t2⟩ := read_text b hok
  rw [if_pos hok, implTraceText_eq _ t2 (K + 1) (by omega), Option.bind_some, t1, if_pos rfl]
  by_cases he : evB a = true
  ·rw [if_pos he, ev he, Option.bind_some]
   have : (a.toList != a.toList) = false := by simp
   rw [this]; exact fin
  ·rw [if_neg he]; exact fin
 ·rw [if_neg hok]
  by_cases he : evB a = true
  ·rw [if_pos he, ev he, Option.bind_some]
   have : (a.toList != a.toList) = false := by simp
   rw [this]; exact fin
  ·rw [if_neg he]; exact fin
end Go.Proofs.YtaakcbgpmabaaaaDoor.Pure
