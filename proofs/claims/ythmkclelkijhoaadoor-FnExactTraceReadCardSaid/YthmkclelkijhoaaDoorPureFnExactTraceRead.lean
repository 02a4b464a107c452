/- For all texts the program's TraceRead returns what the reference's TraceRead returns, and memory of its own: no conditions (the card of the tied row). -/
import Derived.Test.YthmkclelkijhoaaDoorPFnExactTraceReadx6
namespace Go.Proofs.YthmkclelkijhoaaDoor.Pure
open Go.RowKit Go.Proofs.YthmkclelkijhoaaDoor.PFnExactTraceRead Go.Proofs.YthmkclelkijhoaaDoorW.PrintWords Go.Proofs.YthmkclelkijhoaaDoorW.PrintLast
set_option linter.unusedVariables false
set_option linter.unusedSimpArgs false

theorem wrap_small {x : Int} (h0 : -9223372036854775808 ≤ x) (h : x ≤ 9223372036854775807) : wrap64 x = x := by
 unfold wrap64; omega
theorem wrap_succ {i : Nat} (h : i < 4611686018427387904) : wrap64 ((i : Int) + 1) = ((i + 1 : Nat) : Int) := by
 unfold wrap64; omega
theorem for_st {σ ρ : Type} (n : Nat) (L : Nat → Nat → σ → Option ρ) (st : Nat → σ) (r : ρ) (hs : ∀ k i, i < n → L (k + 1) i (st i) = L k (i + 1) (st (i + 1))) (he : ∀ k, L (k + 1) n (st n) = some r) :
  ∀ (k i : Nat), i ≤ n → n < i + k → L k i (st i) = some r
 | 0, i, hi, hk => by omega
 | k + 1, i, hi, hk => by
  by_cases h : i < n
  ·rw [hs k i h]; exact for_st n L st r hs he k (i + 1) (by omega) (by omega)
  ·have : i = n := by omega
   subst this; exact he k
theorem set_step {α : Type} (a b : List α) (i : Nat) (hi : i < a.length) (hb : b.length = a.length) : (a.take i ++ b.drop i).set i (a[i]'hi) = a.take (i + 1) ++ b.drop (i + 1) := by
 rw [List.set_append_right _ _ (by simp; omega), List.length_take, Nat.min_eq_left (by omega), Nat.sub_self, List.take_succ_eq_append_getElem hi, List.append_assoc]
 congr 1
 rw [List.drop_eq_getElem_cons (by omega)]
 rfl
theorem snoc_step {α : Type} (a : List α) (i : Nat) (hi : i < a.length) : a.take i ++ [a[i]'hi] = a.take (i + 1) := by
 rw [List.take_succ_eq_append_getElem hi]
theorem l1In_eq (x lo hi : Int) : spec_l1In.f x lo hi = some (decide (lo ≤ x ∧ x ≤ hi)) := by
 unfold spec_l1In.f
 by_cases h : x ≥ lo
 ·rw [if_pos h]; have h' : lo ≤ x := h; simp [h']
 ·rw [if_neg h]; have h' : ¬ lo ≤ x := h; simp [h']
theorem from_eq (x lo hi : Int) : impl_from.f x lo hi = some (decide (lo ≤ x ∧ x ≤ hi)) := by
 unfold impl_from.f
 by_cases h : x ≥ lo
 ·rw [if_pos h]; have h' : lo ≤ x := h; simp [h']
 ·rw [if_neg h]; have h' : ¬ lo ≤ x := h; simp [h']
def dgF : Nat → Nat → ByteArray
 | 0, _ => ⟨#[]⟩
 | f + 1, n => if n < 10 then ⟨#[UInt8.ofNat (48 + n)]⟩ else dgF f (n / 10) ++ ⟨#[UInt8.ofNat (48 + n % 10)]⟩
def dg (n : Nat) : ByteArray := dgF 20 n
theorem dgF_size : ∀ f n, (dgF f n).size ≤ f
 | 0, _ => Nat.le_refl _
 | f + 1, n => by
  unfold dgF
  by_cases h : n < 10
  ·rw [if_pos h]; show 1 ≤ f + 1; omega
  ·rw [if_neg h, ByteArray.size_append]; have := dgF_size f (n / 10); show _ + 1 ≤ _; omega
theorem enc_digit (d : Nat) (h : d < 10) : Go.Utf8.encode (wrap32 (wrap64 (48 + (d : Int)))) = ⟨#[UInt8.ofNat (48 + d)]⟩ := by
 have e : wrap32 (wrap64 (48 + (d : Int))) = 48 + (d : Int) := by unfold wrap32 wrap64; omega
 rw [e]
 have hc : d = 0 ∨ d = 1 ∨ d = 2 ∨ d = 3 ∨ d = 4 ∨ d = 5 ∨ d = 6 ∨ d = 7 ∨ d = 8 ∨ d = 9 := by omega
 rcases hc with rfl | rfl | rfl | rfl | rfl | rfl | rfl | rfl | rfl | rfl <;> simp [Go.Utf8.encode, Go.Utf8.valid]
theorem digits_f : ∀ (f : Nat) (n : Nat), f ≤ 20 → n < 10 ^ f → n < 9223372036854775808 → 0 < f → ∀ k, 2 * f < k → impl_digits.f k (n : Int) = some (dgF f n)
 | 0, n, _, _, _, h, _, _ => by omega
 | f + 1, n, hf, hn, hb, _, k, hk => by
  obtain ⟨k, rfl⟩ : ∃ m, k = m + 2 := ⟨k - 2, by omega⟩
  simp only [impl_digits.f, impl_digits.j0, dgF]
  rw [if_neg (by omega), if_neg (by simp), if_neg (by omega)]
  by_cases h : n < 10
  ·rw [if_pos (by omega), if_pos h, enc_digit n h]
  ·have hd : Int.tdiv (n : Int) 10 = ((n / 10 : Nat) : Int) := by rw [Int.tdiv_eq_ediv_of_nonneg (by omega)]; omega
   have hm : Int.tmod (n : Int) 10 = ((n % 10 : Nat) : Int) := by rw [Int.tmod_eq_emod_of_nonneg (by omega)]; omega
   have hp : n / 10 < 10 ^ f := by rw [Nat.pow_succ] at hn; omega
   have hf0 : 0 < f := by
    rcases Nat.eq_zero_or_pos f with e | e
    ·subst e; simp at hp; omega
    ·exact e
   rw [if_neg (by omega), if_neg h, hd, hm, wrap_small (by omega) (by omega), digits_f f (n / 10) (by omega) hp (by omega) hf0 k (by omega), Option.bind_some, enc_digit (n % 10) (by omega), if_pos (by have := dgF_size f (n / 10); show _ + 1 ≤ _; omega)]
theorem digits_eq (n : Int) (h0 : 0 ≤ n) (hb : n < 9223372036854775808) (k : Nat) (hk : 40 < k) : impl_digits.f k n = some (dg n.toNat) := by
 have h := digits_f 20 n.toNat (by omega) (by omega) (by omega) (by omega) k (by omega)
 rwa [Int.toNat_of_nonneg h0] at h
theorem str_digit (d : Nat) (h : d < 10) : strOfNums [wrap64 (48 + (d : Int)) % 256] = ⟨#[UInt8.ofNat (48 + d)]⟩ := by
 have e : wrap64 (48 + (d : Int)) % 256 = 48 + (d : Int) := by unfold wrap64; omega
 rw [e]
 have hc : d = 0 ∨ d = 1 ∨ d = 2 ∨ d = 3 ∨ d = 4 ∨ d = 5 ∨ d = 6 ∨ d = 7 ∨ d = 8 ∨ d = 9 := by omega
 rcases hc with rfl | rfl | rfl | rfl | rfl | rfl | rfl | rfl | rfl | rfl <;> rfl
theorem l16Digits_l : ∀ (f : Nat) (n : Nat) (acc : ByteArray), f ≤ 20 → 0 < n → n < 10 ^ f → n < 9223372036854775808 → acc.size ≤ 1000 - 20 + f * 0 + (20 - f) → ∀ k, f < k → spec_l16Digits.l0 k (n : Int) acc = some (dgF f n ++ acc)
 | 0, n, _, _, h0, hn, _, _, _, _ => by simp at hn; omega
 | f + 1, n, acc, hf, h0, hn, hb, ha, k, hk => by
  obtain ⟨k, rfl⟩ : ∃ m, k = m + 1 := ⟨k - 1, by omega⟩
  have hd : Int.tdiv (n : Int) 10 = ((n / 10 : Nat) : Int) := by rw [Int.tdiv_eq_ediv_of_nonneg (by omega)]; omega
  have hm : Int.tmod (n : Int) 10 = ((n % 10 : Nat) : Int) := by rw [Int.tmod_eq_emod_of_nonneg (by omega)]; omega
  simp only [spec_l16Digits.l0, dgF]
  rw [if_pos (by omega), hd, hm, Option.bind_some, str_digit (n % 10) (by omega), if_pos (by show 1 + _ ≤ _; omega), wrap_small (by omega) (by omega)]
  by_cases h : n < 10
  ·rw [if_pos h, show n / 10 = 0 by omega, show n % 10 = n by omega]
   obtain ⟨k, rfl⟩ : ∃ m, k = m + 1 := ⟨k - 1, by omega⟩
   simp only [spec_l16Digits.l0]
   rw [if_neg (by omega)]
  ·have hp : n / 10 < 10 ^ f := by rw [Nat.pow_succ] at hn; omega
   rw [if_neg h, l16Digits_l f (n / 10) _ (by omega) (by omega) hp (by omega) (by rw [ByteArray.size_append]; show 1 + _ ≤ _; omega) k (by omega), ByteArray.append_assoc]
theorem l16Digits_eq (n : Int) (h0 : 0 ≤ n) (hb : n < 9223372036854775808) (k : Nat) (hk : 20 < k) : spec_l16Digits.f k n = some (dg n.toNat) := by
 unfold spec_l16Digits.f
 by_cases h : n ≤ 0
 ·have : n = 0 := by omega
  subst this; rw [if_pos h]; rfl
 ·rw [if_neg h]
  have h2 := l16Digits_l 20 n.toNat ⟨#[]⟩ (by omega) (by omega) (by omega) (by omega) (by show 0 ≤ _; omega) k hk
  rw [Int.toNat_of_nonneg h0] at h2
  have e : dgF 20 n.toNat ++ (⟨#[]⟩ : ByteArray) = dgF 20 n.toNat := ByteArray.append_empty
  rw [h2, e]; rfl
def cutA (c : UInt8) : List UInt8 → List UInt8 → List (List UInt8)
 | acc, [] => [acc]
 | acc, b :: l => if b = c then acc :: cutA c [] l else cutA c (acc ++ [b]) l
theorem cutA_cons (c : UInt8) (acc : List UInt8) (b : UInt8) (l : List UInt8) : cutA c acc (b :: l) = if b = c then acc :: cutA c [] l else cutA c (acc ++ [b]) l := by rw [cutA]
def byB (l : List UInt8) : ByteArray := ⟨l.toArray⟩
def cutB (s : ByteArray) (c : UInt8) : List ByteArray := (cutA c [] s.data.toList).map byB
theorem ex_toList (s : ByteArray) (a b : Nat) : s.extract a b = byB ((s.data.toList.take b).drop a) := by
 apply ByteArray.ext
 rw [ByteArray.data_extract]
 unfold byB
 apply Array.ext'
 rw [Array.toList_extract]
 simp [List.extract_eq_take_drop, List.drop_take]
theorem cutA_len (c : UInt8) : ∀ (l acc : List UInt8), (cutA c acc l).length = l.count c + 1
 | [], acc => by simp [cutA]
 | b :: l, acc => by
  rw [cutA_cons]
  by_cases h : b = c
  ·rw [if_pos h, List.length_cons, cutA_len c l, h, List.count_cons_self]
  ·rw [if_neg h, cutA_len c l, List.count_cons_of_ne h]
theorem toList_nil (s : ByteArray) : s.toList = ([] : List UInt8) ↔ s.size = 0 := by
 constructor
 ·intro h
  have h2 := congrArg List.length h
  rcases Nat.eq_zero_or_pos s.size with e | e
  ·exact e
  ·exfalso
   unfold ByteArray.toList at h
   unfold ByteArray.toList.loop at h
   rw [if_pos e] at h
   have : ∀ (n i : Nat) (r : List UInt8), s.size - i = n → r ≠ [] → ByteArray.toList.loop s i r ≠ [] := by
    intro n
    induction n with
    | zero => intro i r hn hr; unfold ByteArray.toList.loop; rw [if_neg (by omega)]; simpa using hr
    | succ n ih => intro i r hn hr; unfold ByteArray.toList.loop; rw [if_pos (by omega)]; exact ih _ _ (by omega) (by simp)
   exact this _ _ _ rfl (by simp) h
 ·intro h
  unfold ByteArray.toList ByteArray.toList.loop
  rw [if_neg (by omega)]; rfl
theorem size_list (s : ByteArray) : s.data.toList.length = s.size := rfl
theorem bt_list (s : ByteArray) (i : Nat) (h : i < s.data.toList.length) : bt s (i : Int) = ((s.data.toList[i]).toNat : Int) := by
 unfold bt
 have h2 : (i : Int).toNat < s.size := by rw [Int.toNat_natCast]; exact h
 rw [dif_pos h2]
 rfl
theorem l28Cut_l (s : ByteArray) (c : UInt8) (hs : s.size ≤ 1048576) : ∀ (d i f : Nat) (out : List ByteArray) (k : Nat), i + d = s.size → f ≤ i → out.length ≤ i → d + 1 < k →
  spec_l28Cut.l0 k s (c.toNat : Int) out (f : Int) (i : Int) = some (out ++ (cutA c ((s.data.toList.take i).drop f) (s.data.toList.drop i)).map byB)
 | 0, i, f, out, k, hi, hf, ho, hk => by
  obtain ⟨k, rfl⟩ : ∃ m, k = m + 1 + 1 := ⟨k - 2, by omega⟩
  rw [spec_l28Cut.l0, if_pos (by omega), if_pos (by omega), if_pos (by omega), if_pos (by omega), if_pos (by omega), spec_l28Cut.l0, if_neg (by rw [wrap_succ (by omega)]; omega), ex_toList, Int.toNat_natCast, Int.toNat_natCast]
  rw [show s.data.toList.drop i = [] from List.drop_eq_nil_of_le (by rw [size_list]; omega)]; rfl
 | d + 1, i, f, out, k, hi, hf, ho, hk => by
  obtain ⟨k, rfl⟩ : ∃ m, k = m + 1 := ⟨k - 1, by omega⟩
  have hl : i < s.data.toList.length := by rw [size_list]; omega
  rw [spec_l28Cut.l0, if_pos (by omega), if_neg (by omega), if_pos (by omega), if_pos (by omega), bt_list s i hl, List.drop_eq_getElem_cons hl]
  by_cases h : s.data.toList[i] = c
  ·rw [if_pos (by rw [h]), if_pos (by omega), if_pos (by omega), if_pos (by omega), ex_toList, Int.toNat_natCast, Int.toNat_natCast, wrap_succ (by omega), l28Cut_l s c hs d (i + 1) (i + 1) _ k (by omega) (by omega) (by simp; omega) (by omega)]
   rw [cutA_cons, if_pos h, List.map_cons, List.append_assoc, show (s.data.toList.take (i + 1)).drop (i + 1) = [] from List.drop_eq_nil_of_le (by rw [List.length_take]; omega)]
   rfl
  ·rw [if_neg (show ¬ ((s.data.toList[i].toNat : Nat) : Int) = (c.toNat : Int) from fun e => h (UInt8.toNat_inj.1 (by omega))), wrap_succ (by omega), l28Cut_l s c hs d (i + 1) f _ k (by omega) (by omega) (by omega) (by omega)]
   have e : (s.data.toList.take (i + 1)).drop f = (s.data.toList.take i).drop f ++ [s.data.toList[i]] := by
    rw [List.take_succ_eq_append_getElem hl, List.drop_append_of_le_length (by rw [List.length_take]; omega)]
   rw [e]
   rw [cutA_cons, if_neg h]
theorem l28Cut_eq (s : ByteArray) (c : UInt8) (hs : s.size ≤ 1048576) (k : Nat) (hk : s.size + 1 < k) : spec_l28Cut.f k s (c.toNat : Int) = some (cutB s c) := by
 unfold spec_l28Cut.f cutB
 have h := l28Cut_l s c hs s.size 0 0 [] k (by omega) (by omega) (by simp) hk
 simpa using h
theorem idx_cut (c : UInt8) : ∀ l : List UInt8, (Lib.indexByte l c = -1 ∧ l.count c = 0 ∧ ∀ acc, cutA c acc l = [acc ++ l]) ∨ ∃ m : Nat, Lib.indexByte l c = (m : Int) ∧ m < l.length ∧ l.count c = (l.drop (m + 1)).count c + 1 ∧ ∀ acc, cutA c acc l = (acc ++ l.take m) :: cutA c [] (l.drop (m + 1))
 | [] => .inl ⟨rfl, rfl, fun acc => by simp [cutA]⟩
 | b :: l => by
  by_cases h : b = c
  ·exact .inr ⟨0, by unfold Lib.indexByte; rw [if_pos (by simpa using h)]; rfl, by simp, by subst h; simp, fun acc => by rw [cutA_cons, if_pos h]; simp⟩
  ·have hb : ¬ (b == c) = true := by simpa using h
   rcases idx_cut c l with ⟨e1, e2, e3⟩ | ⟨m, e1, e2, e3, e4⟩
   ·refine .inl ⟨?_, ?_, fun acc => ?_⟩
    ·unfold Lib.indexByte; rw [if_neg hb, e1]; rfl
    ·rw [List.count_cons_of_ne h, e2]
    ·rw [cutA_cons, if_neg h, e3]; simp
   ·refine .inr ⟨m + 1, ?_, by simpa using e2, ?_, fun acc => ?_⟩
    ·unfold Lib.indexByte; rw [if_neg hb, e1, if_neg (by simp)]; rfl
    ·rw [List.count_cons_of_ne h, e3]; simp
    ·rw [cutA_cons, if_neg h, e4]; simp
theorem index_one (s : ByteArray) (c : UInt8) : strings_Index.f s (⟨#[c]⟩ : ByteArray) = some (Lib.indexByte s.data.toList c) := by
 unfold strings_Index.f stringslite_Index.f
 have hz : (⟨#[c]⟩ : ByteArray).size = 1 := rfl
 rw [if_pos hz, Option.bind_some]; rfl
theorem wrap_zero (m : Nat) (h : m ≤ 1048576) : wrap64 ((m : Int) + 0) = (m : Int) := by rw [Int.add_zero]; exact wrap_small (by omega) (by omega)
theorem wrap_one (c : UInt8) (m : Nat) (h : m ≤ 1048576) : wrap64 ((m : Int) + ((⟨#[c]⟩ : ByteArray).size : Int)) = ((m + 1 : Nat) : Int) := by
 have hz : (((⟨#[c]⟩ : ByteArray).size : Nat) : Int) = 1 := rfl
 rw [hz]; exact wrap_succ (by omega)
theorem genSplit_step (c : UInt8) (s : ByteArray) (n i m : Nat) (a : List ByteArray) (k : Nat) (hs : s.size ≤ 1048576) (hi : i + 1 < n) (hn : n ≤ 1048577) (ha : a.length = n) (hm : m < s.size) (e1 : strings_Index.f s (⟨#[c]⟩ : ByteArray) = some (m : Int)) :
  strings_genSplit.l0 (k + 1) s (⟨#[c]⟩ : ByteArray) 0 ((n : Int) - 1) a (i : Int) = strings_genSplit.l0 k (s.extract (m + 1) s.size) (⟨#[c]⟩ : ByteArray) 0 ((n : Int) - 1) (a.set i (s.extract 0 m)) ((i + 1 : Nat) : Int) := by
 have w0 : wrap64 ((m : Int) + 0) = (m : Int) := wrap_zero m (by omega)
 have w1 := wrap_one c m (by omega)
 rw [strings_genSplit.l0, if_pos (by omega), e1, Option.bind_some, if_neg (by omega), w0, if_pos (by omega), if_pos (by omega), if_pos (by omega), if_pos (by omega), w1, if_pos (by omega), if_pos (by omega), wrap_succ (by omega), Int.toNat_natCast, Int.toNat_natCast, Int.toNat_natCast]
theorem genSplit_end (c : UInt8) (s : ByteArray) (n i : Nat) (a : List ByteArray) (k : Nat) (hi : i + 1 = n) (hn : n ≤ 1048577) (ha : a.length = n) :
  strings_genSplit.l0 (k + 1) s (⟨#[c]⟩ : ByteArray) 0 ((n : Int) - 1) a (i : Int) = some ((a.set i s).take (i + 1)) := by
 rw [strings_genSplit.l0, if_neg (by omega), if_pos (by omega), if_pos (by omega), wrap_succ (by omega), if_pos (by omega), if_pos (by omega), Int.toNat_natCast, Int.toNat_natCast]
theorem take_set (a : List ByteArray) (i : Nat) (v : ByteArray) (h : i < a.length) : (a.set i v).take (i + 1) = a.take i ++ [v] := by
 rw [← snoc_step (a.set i v) i (by simpa using h), List.take_set_of_le (Nat.le_refl _)]; simp
theorem ex_rest (s : ByteArray) (m : Nat) : (s.extract (m + 1) s.size).data.toList = s.data.toList.drop (m + 1) := by
 rw [ex_toList]; show (List.drop (m + 1) (List.take s.size s.data.toList)) = _; rw [List.take_of_length_le (by rw [size_list]; exact Nat.le_refl _)]
theorem ex_size (s : ByteArray) (m : Nat) (hs : s.size ≤ 1048576) : (s.extract (m + 1) s.size).size ≤ 1048576 := by
 rw [← size_list, ex_rest, List.length_drop, size_list]; omega
theorem genSplit_l (c : UInt8) (n : Nat) (hn : n ≤ 1048577) : ∀ (q i : Nat) (s : ByteArray) (a : List ByteArray) (k : Nat), s.size ≤ 1048576 → s.data.toList.count c = q → i + q + 1 = n → a.length = n → q < k →
  strings_genSplit.l0 k s (⟨#[c]⟩ : ByteArray) 0 ((n : Int) - 1) a (i : Int) = some (a.take i ++ cutB s c)
 | 0, i, s, a, k, hs, hc, hi, ha, hk => by
  obtain ⟨k, rfl⟩ : ∃ m, k = m + 1 := ⟨k - 1, Nat.eq_add_of_sub_eq hk rfl⟩
  rw [genSplit_end c s n i a k hi hn ha, take_set a i s (by rw [ha, ← hi]; exact Nat.lt_succ_self _)]
  rcases idx_cut c s.data.toList with ⟨_, _, e⟩ | ⟨m, _, _, e, _⟩
  ·unfold cutB
   rw [e]; rfl
  ·rw [hc] at e; cases e
 | q + 1, i, s, a, k, hs, hc, hi, ha, hk => by
  obtain ⟨k, rfl⟩ : ∃ m, k = m + 1 := ⟨k - 1, Nat.eq_add_of_sub_eq (Nat.lt_of_le_of_lt (Nat.zero_le _) hk) rfl⟩
  rcases idx_cut c s.data.toList with ⟨_, e, _⟩ | ⟨m, e1, e2, e3, e4⟩
  ·rw [hc] at e; cases e
  ·have hcq : (s.data.toList.drop (m + 1)).count c = q := Nat.succ.inj (e3.symm.trans hc)
   have e5 : strings_Index.f s (⟨#[c]⟩ : ByteArray) = some (m : Int) := by rw [index_one, e1]
   rw [genSplit_step c s n i m a k hs (by clear e1 e2 e3 e4 e5 hcq hc; omega) hn ha e2 e5,
    genSplit_l c n hn q (i + 1) (s.extract (m + 1) s.size) (a.set i (s.extract 0 m)) k (ex_size s m hs) (by rw [ex_rest]; exact hcq) (by clear e1 e2 e3 e4 e5 hcq hc; omega) (by rw [List.length_set]; exact ha) (Nat.lt_of_succ_lt_succ hk)]
   rw [take_set a i _ (by clear e1 e2 e3 e4 e5 hcq hc; omega)]
   unfold cutB
   rw [ex_rest, e4, ex_toList]
   simp
theorem split_eq (s : ByteArray) (c : UInt8) (hs : s.size ≤ 1048576) (k : Nat) (hk : 1048580 < k) : strings_Split.f k s (⟨#[c]⟩ : ByteArray) = some (cutB s c) := by
 have hcl : s.data.toList.count c ≤ s.size := List.count_le_length
 obtain ⟨k, rfl⟩ : ∃ m, k = m + 1 := ⟨k - 1, by omega⟩
 unfold strings_Split.f strings_genSplit.f strings_Count.f byteCount Lib.countByte
 have e0 : wrap64 (((s.data.toList.count c : Nat) : Int) + 1) = ((s.data.toList.count c + 1 : Nat) : Int) := wrap_succ (by omega)
 have e1 : mn ((s.data.toList.count c + 1 : Nat) : Int) (wrap64 ((s.size : Int) + 1)) = ((s.data.toList.count c + 1 : Nat) : Int) := by
  rw [wrap_succ (by omega)]; unfold mn; rw [if_neg (by omega)]
 rw [if_neg (by decide), if_neg (fun e => absurd ((toList_nil (⟨#[c]⟩ : ByteArray)).1 e) (by show ¬ (1 = 0); omega)), if_pos (by decide), if_pos (show (⟨#[c]⟩ : ByteArray).size = 1 from rfl), Option.bind_some]
 show (strings_genSplit.j0 (k + 1) s ⟨#[c]⟩ 0 (wrap64 (((s.data.toList.count c : Nat) : Int) + 1))).bind (fun t149 => some t149) = _
 rw [e0, strings_genSplit.j0, e1, if_pos (by omega), if_pos (by omega), wrap_small (by omega) (by omega)]
 have h := genSplit_l c (s.data.toList.count c + 1) (by omega) (s.data.toList.count c) 0 s (List.replicate (((s.data.toList.count c + 1 : Nat) : Int)).toNat (⟨#[]⟩ : ByteArray)) k hs rfl (by omega) (by simp) (by omega)
 rw [show ((0 : Nat) : Int) = 0 from rfl] at h
 rw [h]
 simp
def digB (s : ByteArray) (i : Nat) : Bool := decide (48 ≤ bt s (i : Int) ∧ bt s (i : Int) ≤ 57)
def valB (s : ByteArray) : Nat → Int
 | 0 => 0
 | i + 1 => 10 * valB s i + (bt s (i : Int) - 48)
theorem valB_succ (s : ByteArray) (i : Nat) : valB s (i + 1) = 10 * valB s i + (bt s (i : Int) - 48) := rfl
def digsB (s : ByteArray) (n : Nat) : Bool := (List.range n).all (digB s)
theorem digsB_succ (s : ByteArray) (n : Nat) : digsB s (n + 1) = (digsB s n && digB s n) := by unfold digsB; rw [List.range_succ, List.all_append]; simp
theorem digsB_mono (s : ByteArray) : ∀ (d n : Nat), digsB s (n + d) = true → digsB s n = true
 | 0, n, h => h
 | d + 1, n, h => by rw [← Nat.add_assoc, digsB_succ, Bool.and_eq_true] at h; exact digsB_mono s d n h.1
theorem digsB_no (s : ByteArray) {i n : Nat} (hi : i < n) (h : digB s i = false) : digsB s n = false := by
 rcases Bool.eq_false_or_eq_true (digsB s n) with e | e
 ·have := digsB_mono s (n - (i + 1)) (i + 1) (by rw [show i + 1 + (n - (i + 1)) = n by omega]; exact e)
  rw [digsB_succ, h] at this; simp at this
 ·exact e
theorem valB_bd (s : ByteArray) : ∀ i, digsB s i = true → 0 ≤ valB s i ∧ valB s i < 10 ^ i
 | 0, _ => by simp [valB]
 | i + 1, h => by
  rw [digsB_succ, Bool.and_eq_true] at h
  have h1 := valB_bd s i h.1
  have h2 : 48 ≤ bt s (i : Int) ∧ bt s (i : Int) ≤ 57 := of_decide_eq_true h.2
  unfold valB
  rw [Int.pow_succ]
  omega
theorem valB_bd5 (s : ByteArray) (i : Nat) (hi : i ≤ 5) (h : digsB s i = true) : 0 ≤ valB s i ∧ valB s i < 100000 := by
 have := valB_bd s i h
 have h2 : (10 : Int) ^ i ≤ 100000 := by
  have : i = 0 ∨ i = 1 ∨ i = 2 ∨ i = 3 ∨ i = 4 ∨ i = 5 := by omega
  rcases this with rfl | rfl | rfl | rfl | rfl | rfl <;> decide
 omega
def okNum (s : ByteArray) : Bool := digsB s s.size && (decide (s.size ≤ 5) && (decide (1 ≤ s.size) && decide ((dg (valB s s.size).toNat).toList = s.toList)))
def numV (s : ByteArray) : Int := if s.toList = ([45] : List UInt8) then -1 else if (okNum s && decide (valB s s.size ≤ 65535)) = true then valB s s.size else -2
theorem l28Num_l (s : ByteArray) : ∀ (d i k : Nat), i + d = min s.size 5 → digsB s i = true → d + 30 < k → spec_l28Num.l0 k s (valB s i) (i : Int) = some (if (okNum s && decide (valB s s.size ≤ 65535)) = true then valB s s.size else -2) := by
 intro d
 induction d with
 | zero =>
  intro i k hi hd hk
  obtain ⟨k, rfl⟩ : ∃ m, k = m + 1 := ⟨k - 1, by omega⟩
  have hb := valB_bd5 s i (by omega) hd
  rw [spec_l28Num.l0]
  by_cases h5 : s.size ≤ 5
  ·have hsz : i = s.size := by omega
   subst hsz
   rw [if_neg (by omega)]
   unfold okNum
   rw [hd, decide_eq_true h5, Bool.true_and, Bool.true_and]
   by_cases h0 : s.size = 0
   ·rw [if_pos ((toList_nil s).2 h0), decide_eq_false (by omega), Bool.false_and, Bool.false_and, if_neg (by simp)]
   ·rw [if_neg (fun e => h0 ((toList_nil s).1 e)), decide_eq_true (show 1 ≤ s.size by omega), Bool.true_and]
    by_cases h6 : valB s s.size > 65535
    ·rw [if_pos h6, decide_eq_false (show ¬ valB s s.size ≤ 65535 by omega), Bool.and_false, if_neg (by simp)]
    ·rw [if_neg h6, decide_eq_true (show valB s s.size ≤ 65535 by omega), Bool.and_true, l16Digits_eq _ hb.1 (by omega) k (by omega), Option.bind_some]
     by_cases he : s.toList = (dg (valB s s.size).toNat).toList
     ·rw [if_pos he, if_pos (decide_eq_true he.symm)]
     ·rw [if_neg he, if_neg (by simpa using fun e => he e.symm)]
  ·have hi5 : i = 5 := by omega
   have hno : okNum s = false := by unfold okNum; rw [decide_eq_false h5]; simp
   rw [if_pos (by omega), if_pos (by omega), hno, Bool.false_and, if_neg (show ¬ (false = true) by simp)]
   by_cases h1 : bt s (i : Int) < 48
   ·rw [if_pos h1]
   ·rw [if_neg h1]
    by_cases h2 : bt s (i : Int) > 57
    ·rw [if_pos h2]
    ·rw [if_neg h2, if_pos (by omega)]
 | succ d ih =>
  intro i k hi hd hk
  obtain ⟨k, rfl⟩ : ∃ m, k = m + 1 := ⟨k - 1, by omega⟩
  have hb := valB_bd5 s i (by omega) hd
  have his : i < s.size := by omega
  have hno : digB s i = false → (if (okNum s && decide (valB s s.size ≤ 65535)) = true then valB s s.size else -2) = -2 := by
   intro h
   have : okNum s = false := by unfold okNum; rw [digsB_no s his h]; simp
   rw [this, Bool.false_and, if_neg (by simp)]
  rw [spec_l28Num.l0, if_pos (by omega), if_pos (by omega)]
  by_cases h1 : bt s (i : Int) < 48
  ·rw [if_pos h1, hno (by unfold digB; exact decide_eq_false (by omega))]
  ·rw [if_neg h1]
   by_cases h2 : bt s (i : Int) > 57
   ·rw [if_pos h2, hno (by unfold digB; exact decide_eq_false (by omega))]
   ·rw [if_neg h2, if_neg (by omega), wrap_succ (by omega), wrap_small (x := 10 * valB s i) (by omega) (by omega), wrap_small (x := bt s (i : Int)) (by omega) (by omega), wrap_small (x := 10 * valB s i + bt s (i : Int)) (by omega) (by omega), wrap_small (by omega) (by omega),
     show 10 * valB s i + bt s (i : Int) - 48 = valB s (i + 1) by rw [valB_succ]; omega]
    exact ih (i + 1) k (by omega) (by rw [digsB_succ, hd, Bool.true_and]; unfold digB; exact decide_eq_true (by omega)) (by omega)
theorem l28Num_eq (s : ByteArray) (k : Nat) (hk : 40 < k) : spec_l28Num.f k s = some (numV s) := by
 unfold spec_l28Num.f numV
 by_cases h : s.toList = ([45] : List UInt8)
 ·rw [if_pos h, if_pos h]
 ·rw [if_neg h, if_neg h]
  exact l28Num_l s (min s.size 5) 0 k (by omega) rfl (by omega)
theorem number_l (s : ByteArray) (h5 : s.size ≤ 5) (h1 : 1 ≤ s.size) : ∀ (d i k : Nat), i + d = s.size → digsB s i = true → d + 50 < k → ∃ x, impl_number.l0 k s (valB s i) (s.size : Int) (i : Int) = some (x, okNum s) ∧ (okNum s = true → x = valB s s.size) := by
 intro d
 induction d with
 | zero =>
  intro i k hi hd hk
  obtain ⟨k, rfl⟩ : ∃ m, k = m + 1 := ⟨k - 1, by omega⟩
  have hb := valB_bd5 s i (by omega) hd
  have hsz : i = s.size := by omega
  subst hsz
  refine ⟨valB s s.size, ?_, fun _ => rfl⟩
  rw [impl_number.l0, if_neg (by omega), digits_eq _ hb.1 (by omega) k (by omega), Option.bind_some]
  unfold okNum
  rw [hd, decide_eq_true h5, decide_eq_true h1, Bool.true_and, Bool.true_and, Bool.true_and, show ((dg (valB s s.size).toNat).toList == s.toList) = decide ((dg (valB s s.size).toNat).toList = s.toList) by rw [Bool.eq_iff_iff]; simp]
 | succ d ih =>
  intro i k hi hd hk
  obtain ⟨k, rfl⟩ : ∃ m, k = m + 1 := ⟨k - 1, by omega⟩
  have hb := valB_bd5 s i (by omega) hd
  have his : i < s.size := by omega
  have hno : digB s i = false → okNum s = false := by
   intro h
   unfold okNum; rw [digsB_no s his h]; simp
  rw [impl_number.l0, if_pos (by omega), if_pos (by omega), if_pos (by omega)]
  by_cases h1 : bt s (i : Int) < 48
  ·have := hno (by unfold digB; exact decide_eq_false (by omega))
   exact ⟨0, by rw [if_pos h1, this], fun h => by rw [this] at h; simp at h⟩
  ·rw [if_neg h1]
   by_cases h2 : bt s (i : Int) > 57
   ·have := hno (by unfold digB; exact decide_eq_false (by omega))
    exact ⟨0, by rw [if_pos h2, this], fun h => by rw [this] at h; simp at h⟩
   ·rw [if_neg h2, wrap_succ (by omega), wrap_small (x := 10 * valB s i) (by omega) (by omega), show (bt s (i : Int) - 48) % 256 = bt s (i : Int) - 48 by omega, wrap_small (by omega) (by omega),
     show 10 * valB s i + (bt s (i : Int) - 48) = valB s (i + 1) from (valB_succ s i).symm]
    exact ih (i + 1) k (by omega) (by rw [digsB_succ, hd, Bool.true_and]; unfold digB; exact decide_eq_true (by omega)) (by omega)
theorem number_ex (s : ByteArray) (k : Nat) (hk : 60 < k) : ∃ x, impl_number.f k s 5 = some (x, okNum s) ∧ (okNum s = true → x = valB s s.size) := by
 obtain ⟨k, rfl⟩ : ∃ m, k = m + 1 := ⟨k - 1, by omega⟩
 unfold impl_number.f
 by_cases h0 : s.size = 0
 ·have hn : okNum s = false := by unfold okNum; rw [decide_eq_false (show ¬ 1 ≤ s.size by omega)]; simp
  exact ⟨0, by rw [if_pos ((toList_nil s).2 h0), impl_number.j0, if_pos rfl, hn], fun h => by rw [hn] at h; simp at h⟩
 ·rw [if_neg (fun e => h0 ((toList_nil s).1 e)), impl_number.j0]
  by_cases h5 : s.size ≤ 5
  ·rw [decide_eq_false (show ¬ (s.size : Int) > 5 by omega), if_neg (by simp)]
   exact number_l s h5 (by omega) s.size 0 k (by omega) rfl (by omega)
  ·have hn : okNum s = false := by unfold okNum; rw [decide_eq_false h5]; simp
   rw [decide_eq_true (show (s.size : Int) > 5 by omega), if_pos rfl]
   exact ⟨0, by rw [hn], fun h => by rw [hn] at h; simp at h⟩
def fitB (i : Nat) (v : Int) : Bool := if i < 2 then decide (0 ≤ v ∧ v ≤ 99) else decide (-1 ≤ v)
def evB (s : ByteArray) : Bool := decide ((cutB s 32).length = 5) && ((List.range 5).all fun i => fitB i (numV ((cutB s 32).getD i ByteArray.empty)))
def evV (s : ByteArray) (i : Nat) : Int := if evB s = true then numV ((cutB s 32).getD i ByteArray.empty) else 0
theorem rdOf_getD (l : List ByteArray) (i : Nat) : rdOf ByteArray.empty l (i : Int) = l.getD i ByteArray.empty := by unfold rdOf; rw [Int.toNat_natCast]
theorem specEventRead_eq (s : ByteArray) (hs : s.size ≤ 1048576) (k : Nat) (hk : 1048700 < k) : spec_EventRead.f k s = some (evV s 0, evV s 1, evV s 2, evV s 3, evV s 4, evB s) := by
 unfold spec_EventRead.f
 rw [show (32 : Int) = ((32 : UInt8).toNat : Int) from rfl, l28Cut_eq s 32 hs k (by omega), Option.bind_some]
 have hev : evB s = (decide ((cutB s 32).length = 5) && (fitB 0 (numV ((cutB s 32).getD 0 ByteArray.empty)) && (fitB 1 (numV ((cutB s 32).getD 1 ByteArray.empty)) && (fitB 2 (numV ((cutB s 32).getD 2 ByteArray.empty)) && (fitB 3 (numV ((cutB s 32).getD 3 ByteArray.empty)) && fitB 4 (numV ((cutB s 32).getD 4 ByteArray.empty))))))) := by
  unfold evB; simp [List.range_succ, Bool.and_assoc]
 unfold evV
 by_cases h5 : (cutB s 32).length = 5
 ·rw [decide_eq_true h5, Bool.true_and] at hev
  rw [if_pos (by omega), if_pos (by omega), show (0 : Int) = ((0 : Nat) : Int) from rfl, rdOf_getD, l28Num_eq _ k (by omega), Option.bind_some, if_pos (by omega), show (1 : Int) = ((1 : Nat) : Int) from rfl, rdOf_getD, l28Num_eq _ k (by omega), Option.bind_some, if_pos (by omega), show (2 : Int) = ((2 : Nat) : Int) from rfl, rdOf_getD, l28Num_eq _ k (by omega), Option.bind_some, if_pos (by omega), show (3 : Int) = ((3 : Nat) : Int) from rfl, rdOf_getD, l28Num_eq _ k (by omega), Option.bind_some, if_pos (by omega), show (4 : Int) = ((4 : Nat) : Int) from rfl, rdOf_getD, l28Num_eq _ k (by omega), Option.bind_some]
  obtain ⟨k, rfl⟩ : ∃ m, k = m + 1 := ⟨k - 1, by omega⟩
  generalize numV ((cutB s 32).getD 0 ByteArray.empty) = v0 at *
  generalize numV ((cutB s 32).getD 1 ByteArray.empty) = v1 at *
  generalize numV ((cutB s 32).getD 2 ByteArray.empty) = v2 at *
  generalize numV ((cutB s 32).getD 3 ByteArray.empty) = v3 at *
  generalize numV ((cutB s 32).getD 4 ByteArray.empty) = v4 at *
  rw [hev]
  clear hev
  have f0 : fitB 0 v0 = decide (0 ≤ v0 ∧ v0 ≤ 99) := rfl
  have f1 : fitB 1 v1 = decide (0 ≤ v1 ∧ v1 ≤ 99) := rfl
  have f2 : fitB 2 v2 = decide (-1 ≤ v2) := rfl
  have f3 : fitB 3 v3 = decide (-1 ≤ v3) := rfl
  have f4 : fitB 4 v4 = decide (-1 ≤ v4) := rfl
  rw [f0, f1, f2, f3, f4]
  have i0 : spec_l1In.f v0 ((0 : Nat) : Int) 99 = some (decide (0 ≤ v0 ∧ v0 ≤ 99)) := l1In_eq _ _ _
  have i1 : spec_l1In.f v1 ((0 : Nat) : Int) 99 = some (decide (0 ≤ v1 ∧ v1 ≤ 99)) := l1In_eq _ _ _
  rw [i0, Option.bind_some]
  by_cases c0 : 0 ≤ v0 ∧ v0 ≤ 99
  ·rw [decide_eq_true c0, if_pos rfl, i1, Option.bind_some, Bool.true_and]
   by_cases c1 : 0 ≤ v1 ∧ v1 ≤ 99
   ·rw [decide_eq_true c1, if_pos rfl, Bool.true_and]
    by_cases c2 : -1 ≤ v2
    ·rw [if_neg (by omega), decide_eq_true c2, Bool.true_and]
     by_cases c3 : -1 ≤ v3
     ·rw [if_neg (by omega), decide_eq_true c3, Bool.true_and, spec_EventRead.j0]
      by_cases c4 : -1 ≤ v4
      ·rw [decide_eq_true c4, decide_eq_false (by omega), if_neg (by simp)]; rfl
      ·rw [decide_eq_false c4, decide_eq_true (by omega), if_pos rfl]; rfl
     ·rw [if_pos (by omega), decide_eq_false c3, Bool.false_and, spec_EventRead.j0, if_pos rfl]; rfl
    ·rw [if_pos (by omega), decide_eq_false c2, Bool.false_and, spec_EventRead.j0, if_pos rfl]; rfl
   ·rw [decide_eq_false c1, if_neg (by simp), Bool.false_and, spec_EventRead.j0, if_pos rfl]; rfl
  ·rw [decide_eq_false c0, if_neg (by simp), Bool.false_and, spec_EventRead.j0, if_pos rfl]; rfl
 ·have he : evB s = false := by rw [hev, decide_eq_false h5, Bool.false_and]
  rw [if_neg (by omega), he]; rfl
theorem evStep (k i : Nat) (w : ByteArray) (ws : List ByteArray) (x n0 n1 n2 n3 n4 : Int) (hx : okNum w = true → x = valB w w.size) : 
  (if w.toList = ([45] : List UInt8) then impl_EventRead.j1 (k + 1) (i : Int) (-1) true ws (ws.length : Int) (i : Int) n0 n1 n2 n3 n4 else impl_EventRead.j1 (k + 1) (i : Int) x (okNum w) ws (ws.length : Int) (i : Int) n0 n1 n2 n3 n4) =
  if fitB i (numV w) = true then impl_EventRead.l0 k ws (ws.length : Int) (wrap64 ((i : Int) + 1)) (if (i : Int) = 0 then numV w else n0) (if (i : Int) = 1 then numV w else n1) (if (i : Int) = 2 then numV w else n2) (if (i : Int) = 3 then numV w else n3) (if (i : Int) = 4 then numV w else n4) else some (0, 0, 0, 0, 0, false) := by
 unfold fitB numV
 by_cases hm : w.toList = ([45] : List UInt8)
 ·rw [if_pos hm, if_pos hm, impl_EventRead.j1]
  by_cases h2 : i < 2
  ·rw [if_pos (by omega), if_pos rfl, from_eq, Option.bind_some, if_pos h2]
  ·rw [if_neg (by omega), if_pos rfl, from_eq, Option.bind_some, if_neg h2, if_pos (show decide ((-1 : Int) ≤ -1 ∧ (-1 : Int) ≤ 65535) = true by decide), if_pos (show decide ((-1 : Int) ≤ -1) = true by decide)]
 ·rw [if_neg hm, if_neg hm, impl_EventRead.j1]
  rcases Bool.eq_false_or_eq_true (okNum w) with ho | ho
  ·have hxv := hx ho
   subst hxv
   have hb : 0 ≤ valB w w.size := by
    unfold okNum at ho; simp only [Bool.and_eq_true] at ho
    exact (valB_bd w _ ho.1).1
   rw [ho, Bool.true_and]
   by_cases h6 : valB w w.size ≤ 65535
   ·rw [if_pos (show decide (valB w w.size ≤ 65535) = true from decide_eq_true h6)]
    by_cases h2 : i < 2
    ·rw [if_pos (by omega), if_pos rfl, from_eq, Option.bind_some, if_pos h2]
    ·rw [if_neg (by omega), if_pos rfl, from_eq, Option.bind_some, if_neg h2, if_pos (decide_eq_true (by omega)), if_pos (decide_eq_true (by omega))]
   ·rw [if_neg (show ¬ decide (valB w w.size ≤ 65535) = true by simpa using h6)]
    by_cases h2 : i < 2
    ·rw [if_pos (by omega), if_pos rfl, from_eq, Option.bind_some, if_pos h2, if_neg (by rw [decide_eq_false (by omega)]; simp), if_neg (by simp)]
    ·rw [if_neg (by omega), if_pos rfl, from_eq, Option.bind_some, if_neg h2, if_neg (by rw [decide_eq_false (by omega)]; simp), if_neg (by simp)]
  ·rw [ho, Bool.false_and, if_neg (show ¬ (false = true) by simp)]
   by_cases h2 : i < 2
   ·rw [if_pos (by omega), if_neg (show ¬ (false = true) by simp), if_pos h2, if_neg (by simp)]
   ·rw [if_neg (by omega), if_neg (show ¬ (false = true) by simp), if_neg h2, if_neg (by simp)]
theorem evRound (k i : Nat) (ws : List ByteArray) (h5 : ws.length = 5) (hi : i < 5) (hk : 70 < k) (n0 n1 n2 n3 n4 : Int) : impl_EventRead.l0 (k + 2) ws (ws.length : Int) (i : Int) n0 n1 n2 n3 n4 =
  if fitB i (numV (ws.getD i ByteArray.empty)) = true then impl_EventRead.l0 k ws (ws.length : Int) (((i + 1 : Nat)) : Int) (if (i : Int) = 0 then numV (ws.getD i ByteArray.empty) else n0) (if (i : Int) = 1 then numV (ws.getD i ByteArray.empty) else n1) (if (i : Int) = 2 then numV (ws.getD i ByteArray.empty) else n2) (if (i : Int) = 3 then numV (ws.getD i ByteArray.empty) else n3) (if (i : Int) = 4 then numV (ws.getD i ByteArray.empty) else n4) else some (0, 0, 0, 0, 0, false) := by
 obtain ⟨x, e, hx⟩ := number_ex (ws.getD i ByteArray.empty) (k + 1) (by omega)
 rw [impl_EventRead.l0, if_pos (by omega), if_pos (by omega), if_pos (by omega), rdOf_getD, e, Option.bind_some]
 have h := evStep k i (ws.getD i ByteArray.empty) ws x n0 n1 n2 n3 n4 hx
 rw [wrap_succ (by omega)] at h
 exact h
theorem implEventRead_eq (s : ByteArray) (hs : s.size ≤ 1048576) (k : Nat) (hk : 1048700 < k) : impl_EventRead.f k s = some (evV s 0, evV s 1, evV s 2, evV s 3, evV s 4, evB s) := by
 unfold impl_EventRead.f
 rw [split_eq s 32 hs k (by omega), Option.bind_some]
 have hev : evB s = (decide ((cutB s 32).length = 5) && (fitB 0 (numV ((cutB s 32).getD 0 ByteArray.empty)) && (fitB 1 (numV ((cutB s 32).getD 1 ByteArray.empty)) && (fitB 2 (numV ((cutB s 32).getD 2 ByteArray.empty)) && (fitB 3 (numV ((cutB s 32).getD 3 ByteArray.empty)) && fitB 4 (numV ((cutB s 32).getD 4 ByteArray.empty))))))) := by
  unfold evB; simp [List.range_succ, Bool.and_assoc]
 unfold evV
 by_cases h5 : (cutB s 32).length = 5
 ·rw [decide_eq_true h5, Bool.true_and] at hev
  rw [if_pos (by omega), hev]
  obtain ⟨k, rfl⟩ : ∃ m, k = m + 11 := ⟨k - 11, by omega⟩
  generalize hw : cutB s 32 = ws at *
  have z : ((0 : Nat) : Int) = 0 := rfl
  have R := fun (q i : Nat) (hi : i < 5) (hq : 70 < q) (n0 n1 n2 n3 n4 : Int) => evRound q i ws h5 hi hq n0 n1 n2 n3 n4
  have r0 := R (k + 9) 0 (by omega) (by omega) 0 0 0 0 0
  rw [show ((0 : Nat) : Int) = 0 from rfl] at r0
  rw [r0]
  cases c0 : fitB 0 (numV (ws.getD 0 ByteArray.empty)) with
  | false => rw [if_neg (by simp), Bool.false_and]; rfl
  | true =>
   rw [if_pos rfl, Bool.true_and, R (k + 7) 1 (by omega) (by omega)]
   cases c1 : fitB 1 (numV (ws.getD 1 ByteArray.empty)) with
   | false => rw [if_neg (by simp), Bool.false_and]; rfl
   | true =>
    rw [if_pos rfl, Bool.true_and, R (k + 5) 2 (by omega) (by omega)]
    cases c2 : fitB 2 (numV (ws.getD 2 ByteArray.empty)) with
    | false => rw [if_neg (by simp), Bool.false_and]; rfl
    | true =>
     rw [if_pos rfl, Bool.true_and, R (k + 3) 3 (by omega) (by omega)]
     cases c3 : fitB 3 (numV (ws.getD 3 ByteArray.empty)) with
     | false => rw [if_neg (by simp), Bool.false_and]; rfl
     | true =>
      rw [if_pos rfl, Bool.true_and, R (k + 1) 4 (by omega) (by omega)]
      cases c4 : fitB 4 (numV (ws.getD 4 ByteArray.empty)) with
      | false => rw [if_neg (by simp)]; rfl
      | true =>
       rw [if_pos rfl, impl_EventRead.l0, if_neg (by omega)]
       simp
 ·have he : evB s = false := by rw [hev, decide_eq_false h5, Bool.false_and]
  rw [if_neg (by omega), he]; rfl
theorem rdEvt (l : List S23) (i : Nat) (h : i < l.length) : rd_T23 l (i : Int) = l[i] := by
 unfold rd_T23; simp [List.getD, h]
def markE (s : Int) (i : Nat) : S23 := ⟨s + 5 * (i : Int), s + 5 * (i : Int) + 1, s + 5 * (i : Int) + 2, s + 5 * (i : Int) + 3, s + 5 * (i : Int) + 4⟩
def marksE (s : Int) (n : Nat) : List S23 := (List.range n).map (markE s)
theorem marksE_length (s : Int) (n : Nat) : (marksE s n).length = n := by simp [marksE]
theorem marksE_get (s : Int) (n i : Nat) (h : i < n) : (marksE s n)[i]'(by rw [marksE_length]; exact h) = markE s i := by simp [marksE]
theorem rdE_set (l : List S23) (i : Nat) (v : S23) (h : i < l.length) : rd_T23 (l.set i v) (i : Int) = v := by
 rw [rdEvt _ i (by simpa using h)]; simp
theorem markEventS_eq (l : List S23) (s : Int) (h0 : 0 ≤ s) (h1 : s ≤ 1152921504606846976) (hl : l.length ≤ 2097152) (k : Nat) (hk : l.length < k) : laws_markEventS.f k l s = some (s + 5 * (l.length : Int), marksE s l.length) := by
 unfold laws_markEventS.f
 have h := for_st l.length (fun k i (t : List S23 × Int) => laws_markEventS.l0 k t.1 t.2 (i : Int)) (fun i => ((marksE s l.length).take i ++ l.drop i, s + 5 * (i : Int))) (s + 5 * (l.length : Int), marksE s l.length) ?_ ?_ k 0 (Nat.zero_le _) (by omega)
 ·simpa using h
 ·intro k i hi
  have hlen : ((marksE s l.length).take i ++ l.drop i).length = l.length := by rw [List.length_append, List.length_take, List.length_drop, marksE_length]; omega
  have hs := set_step (marksE s l.length) l i (by rw [marksE_length]; exact hi) (by rw [marksE_length])
  rw [marksE_get s l.length i hi] at hs
  dsimp only
  generalize (marksE s l.length).take i ++ l.drop i = x at hlen hs ⊢
  rw [laws_markEventS.l0, if_pos (by omega), if_pos (by omega)]
  simp only [Option.bind_some, Int.toNat_natCast]
  have r1 : ∀ v, rd_T23 (x.set i v) (i : Int) = v := fun v => rdE_set x i v (by omega)
  simp only [List.set_set, r1]
  rw [wrap_succ (by omega)]
  simp only [wrap_small (x := s + 5 * (i : Int) + 1) (by omega) (by omega), wrap_small (x := s + 5 * (i : Int) + 1 + 1) (by omega) (by omega), wrap_small (x := s + 5 * (i : Int) + 1 + 1 + 1) (by omega) (by omega), wrap_small (x := s + 5 * (i : Int) + 1 + 1 + 1 + 1) (by omega) (by omega), wrap_small (x := s + 5 * (i : Int) + 1 + 1 + 1 + 1 + 1) (by omega) (by omega)]
  rw [← hs]
  have e : (⟨s + 5 * (i : Int), s + 5 * (i : Int) + 1, s + 5 * (i : Int) + 1 + 1, s + 5 * (i : Int) + 1 + 1 + 1, s + 5 * (i : Int) + 1 + 1 + 1 + 1⟩ : S23) = markE s i := by
   unfold markE; congr 1 <;> omega
  rw [e]; congr 1; omega
 ·intro k
  dsimp only
  rw [laws_markEventS.l0, if_neg (by simp [marksE_length])]
  simp [List.take_of_length_le, marksE_length]
theorem heldEventS_eq (s : Int) (n : Nat) (h0 : 0 ≤ s) (h1 : s ≤ 1152921504606846976) (hl : n ≤ 2097152) (k : Nat) (hk : n < k) : laws_heldEventS.f k (marksE s n) s = some (s + 5 * (n : Int)) := by
 unfold laws_heldEventS.f
 have h := for_st n (fun k i (t : Int) => laws_heldEventS.l0 k (marksE s n) t (i : Int)) (fun i => s + 5 * (i : Int)) (s + 5 * (n : Int)) ?_ ?_ k 0 (Nat.zero_le _) (by omega)
 ·simpa using h
 ·intro k i hi
  rw [laws_heldEventS.l0, if_pos (by rw [marksE_length]; omega), if_pos (by omega), rdEvt _ i (by rw [marksE_length]; exact hi), marksE_get s n i hi]
  simp only [wrap_small (x := s + 5 * (i : Int) + 1) (by omega) (by omega), wrap_small (x := s + 5 * (i : Int) + 1 + 1) (by omega) (by omega), wrap_small (x := s + 5 * (i : Int) + 1 + 1 + 1) (by omega) (by omega), wrap_small (x := s + 5 * (i : Int) + 1 + 1 + 1 + 1) (by omega) (by omega), wrap_small (x := s + 5 * (i : Int) + 1 + 1 + 1 + 1 + 1) (by omega) (by omega)]
  unfold markE
  rw [if_pos rfl, if_pos rfl, if_pos (by dsimp only; omega), if_pos (by dsimp only; omega), if_pos (by dsimp only; omega), wrap_succ (by omega)]
  congr 1; omega
 ·intro k
  rw [laws_heldEventS.l0, if_neg (by rw [marksE_length]; omega)]
theorem eqEvt_same (a b c d e : Int) : laws_eqEvent.f a b c d e a b c d e = some true := by unfold laws_eqEvent.f; simp
theorem eqEventS_same2 (l : List S23) (hl : l.length ≤ 2097152) (k : Nat) (hk : l.length < k) : laws_eqEventS.f k l l = some true := by
 unfold laws_eqEventS.f
 rw [if_pos rfl]
 have h := for_st l.length (fun k' i (_ : Unit) => laws_eqEventS.l0 k' l l (i : Int)) (fun _ => ()) true ?_ ?_ k 0 (Nat.zero_le _) (by omega)
 ·exact h
 ·intro k' i hi
  rw [laws_eqEventS.l0, if_pos (by omega), if_pos (by omega), if_pos (by omega), rdEvt l i hi, eqEvt_same, Option.bind_some, if_pos rfl, wrap_succ (by omega)]
 ·intro k'
  rw [laws_eqEventS.l0, if_neg (by omega)]
def evS (p : ByteArray) : S23 := ⟨evV p 0, evV p 1, evV p 2, evV p 3, evV p 4⟩
def runT : List S23 → List ByteArray → List S23 × Bool
 | _, [] => ([], false)
 | out, [p] => if p.size = 0 then (out, true) else ([], false)
 | out, p :: q :: r => if evB p = true then (if out.length = 60 then ([], false) else runT (out ++ [evS p]) (q :: r)) else ([], false)
theorem runT_len : ∀ (ps : List ByteArray) (out : List S23), out.length ≤ 60 → (runT out ps).1.length ≤ 60
 | [], out, h => by simp [runT]
 | [p], out, h => by unfold runT; split <;> simp [h]
 | p :: q :: r, out, h => by
  unfold runT
  split
  ·split
   ·simp
   ·exact runT_len (q :: r) _ (by simp; omega)
  ·simp
theorem runT_bad : ∀ (ps : List ByteArray) (out : List S23) (hn : ps ≠ []), out.length ≤ 60 → ((ps.getLast hn).size ≠ 0 ∨ 61 < out.length + ps.length) → runT out ps = ([], false)
 | [p], out, _, h, hb => by
  unfold runT
  rcases hb with hb | hb
  ·rw [if_neg (by simpa using hb)]
  ·simp at hb; omega
 | p :: q :: r, out, _, h, hb => by
  unfold runT
  split
  ·split
   ·rfl
   ·refine runT_bad (q :: r) _ (by simp) (by simp; omega) ?_
    rcases hb with hb | hb
    ·left; simpa using hb
    ·right; simp at hb ⊢; omega
  ·rfl
theorem cutA_mem (c : UInt8) : ∀ (l acc p : List UInt8), p ∈ cutA c acc l → p.length ≤ acc.length + l.length
 | [], acc, p, h => by simp [cutA] at h; subst h; simp
 | b :: l, acc, p, h => by
  rw [cutA_cons] at h
  split at h
  ·rcases List.mem_cons.1 h with rfl | h
   ·simp
   ·have := cutA_mem c l [] p h; simp at this ⊢; omega
  ·have := cutA_mem c l (acc ++ [b]) p h; simp at this ⊢; omega
theorem byB_size (l : List UInt8) : (byB l).size = l.length := by unfold byB; simp [ByteArray.size]
theorem cutB_mem (s p : ByteArray) (c : UInt8) (h : p ∈ cutB s c) : p.size ≤ s.size := by
 obtain ⟨l, hl, rfl⟩ := List.mem_map.1 h
 rw [byB_size]
 have := cutA_mem c _ _ _ hl
 rw [size_list] at this; simpa using this
theorem cutB_len (s : ByteArray) (c : UInt8) : (cutB s c).length = s.data.toList.count c + 1 := by unfold cutB; rw [List.length_map, cutA_len]
theorem cutB_ne (s : ByteArray) (c : UInt8) : cutB s c ≠ [] := by intro h; have := cutB_len s c; rw [h] at this; simp at this
theorem spec_round (ps : List ByteArray) (hs : ∀ p ∈ ps, p.size ≤ 1048576) (hl : ps.length ≤ 61) (hn : ps ≠ []) (h0 : (ps.getLast hn).size = 0) : ∀ (d i : Nat) (out : List S23) (k : Nat), i + d + 1 = ps.length → out.length = i → d + 1048800 < k →
  spec_TraceRead.l0 k ps out (i : Int) = some (runT out (ps.drop i))
 | 0, i, out, k, hi, ho, hk => by
  obtain ⟨k, rfl⟩ : ∃ m, k = m + 1 := ⟨k - 1, by omega⟩
  have hd : ps.drop i = [ps.getLast hn] := by
   rw [List.drop_eq_getElem_cons (by omega), List.drop_eq_nil_of_le (by omega), List.getLast_eq_getElem]; congr 1
   congr 1; omega
  rw [spec_TraceRead.l0, wrap_succ (by omega), if_neg (by omega), hd]
  unfold runT
  rw [if_pos h0]
 | d + 1, i, out, k, hi, ho, hk => by
  obtain ⟨k, rfl⟩ : ∃ m, k = m + 1 := ⟨k - 1, by omega⟩
  have hil : i < ps.length := by omega
  have hd : ps.drop i = ps[i] :: ps[i + 1] :: ps.drop (i + 1 + 1) := by
   rw [List.drop_eq_getElem_cons hil, List.drop_eq_getElem_cons (by omega)]
  have hd1 : ps.drop (i + 1) = ps[i + 1] :: ps.drop (i + 1 + 1) := List.drop_eq_getElem_cons (by omega)
  have hg : ps.getD i ByteArray.empty = ps[i] := by simp [List.getD_eq_getElem?_getD, hil]
  rw [spec_TraceRead.l0, wrap_succ (by omega), if_pos (by omega), if_pos (by omega), if_pos (by omega), rdOf_getD, hg, specEventRead_eq _ (hs _ (List.getElem_mem hil)) k (by omega), Option.bind_some, hd]
  unfold runT
  dsimp only
  cases he : evB ps[i] with
  | false => rw [if_neg (by simp), if_neg (by simp)]
  | true =>
   rw [if_pos rfl, if_pos rfl, if_pos (by omega), if_neg (by omega), ← hd1]
   exact spec_round ps hs hl hn h0 d (i + 1) _ k (by omega) (by simp [ho]) (by omega)
theorem specTraceRead_eq (s : ByteArray) (hs : s.size ≤ 1048576) (k : Nat) (hk : 1049000 < k) : spec_TraceRead.f k s = some (runT [] (cutB s 10)) := by
 have hn := cutB_ne s 10
 have hlen := cutB_len s 10
 have hcl : s.data.toList.count 10 ≤ s.size := List.count_le_length
 have hm : ∀ p ∈ cutB s 10, p.size ≤ 1048576 := fun p hp => Nat.le_trans (cutB_mem s p 10 hp) hs
 unfold spec_TraceRead.f
 rw [show (10 : Int) = ((10 : UInt8).toNat : Int) from rfl, l28Cut_eq s 10 hs k (by omega), Option.bind_some, Option.bind_some]
 generalize cutB s 10 = ps at *
 have e1 : wrap64 ((ps.length : Int) - 1) = ((ps.length - 1 : Nat) : Int) := by rw [wrap_small (by omega) (by omega)]; omega
 have hg : ps.getD (ps.length - 1) ByteArray.empty = ps.getLast hn := by
  rw [List.getLast_eq_getElem]; simp [List.getD_eq_getElem?_getD, show ps.length - 1 < ps.length by omega]
 rw [e1, if_pos (by omega), if_pos (by omega), rdOf_getD, hg]
 obtain ⟨k, rfl⟩ : ∃ m, k = m + 1 := ⟨k - 1, by omega⟩
 by_cases h0 : (ps.getLast hn).size = 0
 ·rw [if_pos ((toList_nil _).2 h0), spec_TraceRead.j0]
  by_cases h61 : ps.length ≤ 61
  ·rw [decide_eq_false (by omega), if_neg (by simp)]
   have := spec_round ps hm h61 hn h0 (ps.length - 1) 0 [] k (by omega) rfl (by omega)
   rw [List.drop_zero, show ((0 : Nat) : Int) = 0 from rfl] at this
   exact this
  ·rw [decide_eq_true (by omega), if_pos rfl, runT_bad ps [] hn (by simp) (.inr (by simp; omega))]
 ·rw [if_neg (fun e => h0 ((toList_nil _).1 e)), spec_TraceRead.j0, if_pos rfl, runT_bad ps [] hn (by simp) (.inl h0)]
theorem cut_no (s : ByteArray) (c : UInt8) (h : Lib.indexByte s.data.toList c = -1) : strings_Cut.f s (⟨#[c]⟩ : ByteArray) = some (s, (⟨#[]⟩ : ByteArray), false) := by
 unfold strings_Cut.f stringslite_Cut.f stringslite_Index.f
 rw [if_pos (show (⟨#[c]⟩ : ByteArray).size = 1 from rfl), Option.bind_some, show byteIdx s ((⟨#[c]⟩ : ByteArray).data.getD 0 0) = -1 from h, if_neg (by decide), Option.bind_some]
theorem cut_yes (s : ByteArray) (c : UInt8) (m : Nat) (hs : s.size ≤ 1048576) (hm : m < s.size) (h : Lib.indexByte s.data.toList c = (m : Int)) : strings_Cut.f s (⟨#[c]⟩ : ByteArray) = some (s.extract 0 m, s.extract (m + 1) s.size, true) := by
 have w1 := wrap_one c m (by omega)
 unfold strings_Cut.f stringslite_Cut.f stringslite_Index.f
 rw [if_pos (show (⟨#[c]⟩ : ByteArray).size = 1 from rfl), Option.bind_some, show byteIdx s ((⟨#[c]⟩ : ByteArray).data.getD 0 0) = (m : Int) from h]
 clear h
 rw [if_pos (by omega), if_pos (by omega), if_pos (by omega), w1, if_pos (by omega), if_pos (by omega), Option.bind_some, Int.toNat_natCast, Int.toNat_natCast]
theorem ex_front (s : ByteArray) (m : Nat) (hm : m ≤ s.size) : (s.extract 0 m).size = m := by
 rw [← size_list, ex_toList]; show (List.drop 0 (List.take m s.data.toList)).length = m
 rw [List.drop_zero, List.length_take, size_list]; omega
theorem impl_round : ∀ (q : Nat) (s : ByteArray) (out : List S23) (k : Nat), s.size ≤ 1048576 → s.data.toList.count 10 = q → out.length ≤ 60 → q + 1048800 < k → impl_TraceRead.l0 k s out = some (runT out (cutB s 10)) := by
 intro q
 induction q with
 | zero =>
  intro s out k hs hc ho hk
  obtain ⟨k, rfl⟩ : ∃ m, k = m + 1 := ⟨k - 1, by clear hc; omega⟩
  rcases idx_cut 10 s.data.toList with ⟨e1, _, e⟩ | ⟨m, _, _, e, _⟩
  ·have hcut : cutB s 10 = [s] := by unfold cutB; rw [e]; rfl
   rw [impl_TraceRead.l0, hcut]
   unfold runT
   by_cases h0 : s.size = 0
   ·rw [if_pos ((toList_nil s).2 h0), if_pos h0]
   ·rw [if_neg (fun x => h0 ((toList_nil s).1 x)), if_neg h0, cut_no s 10 e1, Option.bind_some, implEventRead_eq s hs k (by clear hc e1; omega), Option.bind_some, if_neg (by simp)]
  ·rw [hc] at e; cases e
 | succ q ih =>
  intro s out k hs hc ho hk
  obtain ⟨k, rfl⟩ : ∃ m, k = m + 1 := ⟨k - 1, by clear hc; omega⟩
  rcases idx_cut 10 s.data.toList with ⟨_, e, _⟩ | ⟨m, e1, e2, e3, e4⟩
  ·rw [hc] at e; cases e
  ·have hcq : (s.data.toList.drop (m + 1)).count 10 = q := Nat.succ.inj (e3.symm.trans hc)
   have hm : m < s.size := e2
   have hcut : cutB s 10 = s.extract 0 m :: cutB (s.extract (m + 1) s.size) 10 := by
    unfold cutB
    rw [ex_rest, e4, ex_toList]; simp
   have hx := cut_yes s 10 m hs hm e1
   have hne := cutB_ne (s.extract (m + 1) s.size) 10
   have hih := fun out h => ih (s.extract (m + 1) s.size) out k (ex_size s m hs) (by rw [ex_rest]; exact hcq) h (by clear hc e1 e2 e3 e4 hcq hcut hx; omega)
   have hf := ex_front s m (Nat.le_of_lt hm)
   clear e1 e2 e3 e4 hc hcq
   rw [impl_TraceRead.l0, hcut, if_neg (fun x => absurd ((toList_nil s).1 x) (by omega)), hx, Option.bind_some]
   dsimp only
   rw [implEventRead_eq (s.extract 0 m) (by omega) k (by omega), Option.bind_some, if_pos rfl]
   cases hr : cutB (s.extract (m + 1) s.size) 10 with
   | nil => exact absurd hr hne
   | cons b r =>
    unfold runT
    dsimp only
    cases he : evB (s.extract 0 m) with
    | false => rw [if_neg (by simp), if_neg (by simp)]
    | true =>
     rw [if_pos rfl, if_pos rfl]
     by_cases h60 : out.length = 60
     ·rw [if_pos (by omega), if_pos h60]
     ·rw [if_neg (by omega), if_neg h60, if_pos (by omega)]
      have := hih (out ++ [evS (s.extract 0 m)]) (by simp; omega)
      rw [hr] at this
      exact this
theorem implTraceRead_eq (s : ByteArray) (hs : s.size ≤ 1048576) (k : Nat) (hk : 2200000 < k) : impl_TraceRead.f k s = some (runT [] (cutB s 10)) := by
 have hcl : s.data.toList.count 10 ≤ s.size := List.count_le_length
 exact impl_round _ s [] k hs rfl (by simp) (by omega)
theorem FnExactTraceRead : laws_FnExactTraceRead.Pure := by
 intro a0 _
 refine ⟨2300003, ?_⟩
 unfold laws_FnExactTraceRead.f
 by_cases h : (a0.size : Int) > 1048576
 ·rw [if_pos h]
 ·have hl := runT_len (cutB a0 10) [] (by simp)
  rw [if_neg h, specTraceRead_eq a0 (by omega) _ (by omega), Option.bind_some, implTraceRead_eq a0 (by omega) _ (by omega), Option.bind_some, eqEventS_same2 _ (by omega) _ (by omega), Option.bind_some, if_pos rfl, laws_FnExactTraceRead.j0, if_neg (by simp), markEventS_eq _ 1 (by omega) (by omega) (by omega) _ (by omega), Option.bind_some]
  dsimp only
  rw [heldEventS_eq 1 _ (by omega) (by omega) (by omega) _ (by omega), Option.bind_some, if_neg (by omega), if_pos rfl, implTraceRead_eq a0 (by omega) _ (by omega), Option.bind_some, eqEventS_same2 _ (by omega) _ (by omega), Option.bind_some, if_pos rfl, laws_FnExactTraceRead.j1, if_neg (by simp), heldEventS_eq 1 _ (by omega) (by omega) (by omega) _ (by omega), Option.bind_some, if_neg (by omega), if_pos rfl]
end Go.Proofs.YthmkclelkijhoaaDoor.Pure
