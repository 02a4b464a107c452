-- made by wip/tools/myprint.py out of the seat's translation
import Derived.Test.YtnjdepmlpdjghaaPFnAllEndsx0
import Derived.Maps.OwnOps
import Derived.Maps.Views
import Derived.Test.YtnjdepmlpdjghaaPFnAllEndsx6
import Derived.Test.YtnjdepmlpdjghaaPFnAllEndsx7
import Derived.Test.YtnjdepmlpdjghaaPFnAllEndsx10
import Derived.Test.YtnjdepmlpdjghaaPFnAllEndsx11
namespace Go.Proofs.Ytnjdepmlpdjghaa.PFnAllEnds
open Go.RowKit Go.Proofs.YtnjdepmlpdjghaaW.PrintWords Go.Proofs.YtnjdepmlpdjghaaW.PrintLast Go.Proofs.YtnjdepmlpdjghaaW.PrintMore
attribute [local go_sem] max2_int min2_int max_two min_two max_three min_three max_four min_four   -- for this text's walks alone
set_option linter.unusedVariables false
set_option linter.unusedSimpArgs false
set_option maxHeartbeats 8000000
set_option maxRecDepth 100000

/-! ### impl_Ends2: function 24 -/
/-- A row that is cloned: its elements lead to what the row's own led to. -/
def slices_CloneH.f (l0 : List (S29)) : Option (List (S29)) := if l0.length ≤ 3518437208883 then some l0 else none
theorem slices_CloneH.calls (A0 : Option Addr) (c0 : Nat) (l0 : List (S29)) (ok : Nat → Prop) (w : World) (hr0 : Kd.F k29 w ok A0 l0.length l0) (hc0 : l0.length ≤ c0) (hok : ∀ k, w.heap.size ≤ k → ok k) (hl : l0.length ≤ 3518437208883) :
  Calls Try.prog 81 #[.slice A0 l0.length c0] w fun e w' => ∃ v0_ : Value, e = .returned (v0_) ∧ Kd.N k29 29 w' w.heap.size ok v0_ l0 ∧ Below w.heap.size w w' := by
 have LM := zM hl
 have HR0 := zM (Kd.F_bound hr0)
 have HC0 := zM hc0
 have HOK := zM hok
 have HN := zM (Kd.F_now hr0)
 clear hr0 hc0 hok hl
 have HB := zM (Below.refl w.heap.size w)
 have q22 : ∀ (w : World) (a : Option Addr) (n c n' c' : Nat), (binOp .eql 30 (.slice a n c) (.slice none n' c')).run Try.prog w = .ok (.bool a.isNone) w := fun w a n c n' c' => Lib.run_eql_slice_nil w _ _ a n c n' c' Try.underlying30
 cases A0 with
 | none =>
  have hz : l0 = [] := by
   cases l0 with
   | nil => rfl
   | cons x xs => obtain ⟨ad, e, _⟩ := HN.out.2.2 (by simp); cases e
  subst hz
  go_enter Try.func81, Try.ntmps81
  go_wp2
  go_ret
  exact ⟨_, rfl, Kd.N_nil _ _ _ _ _, Below.refl _ _⟩
 | some ad =>
  obtain ⟨y1, hy1⟩ : ∃ y_ : List (S29), y_ = ([] : List (S29)) := ⟨_, rfl⟩
  have Ny1 := zM hy1
  clear hy1
  go_enter Try.func81, Try.ntmps81
  go_wp2_with (first | ((with_reducible refine gate_dst (N := 5) rfl ?_); refine Kd.N_lit k29 _ 29 ?hg (N' := 5) ?hd (xs := ([] : List (S29))) (inner := []) (ok := ok) (okp := ok) ?hr ?hp (fun _ hk => hk) (HOK.out _ (Nat.le_refl _)) (Below.refl _ _) (Nat.le_refl _) (by simp) ?_; (case hd => rfl); (case hg => rfl); (case hr => exact zHH); (case hp => exact (Reps.none _ _)); intro v461 w5 ho6 hb hg_ hnew_; clear hg_ hnew_; (first | rw [← Ny1.1] at ho6 | (simp only [Int.reduceToNat] at ho6; rw [← Ny1.1] at ho6)); have n0_ := zM ho6; have n3_ := zM (below_step HB.1 hb); have n4_ := zM (Kd.F_below HR0.1 hb); clear HB HR0; have HO462 := n0_; have HB := n3_; have HR0 := n4_; clear n0_ n3_ n4_; clear hb ho6) | ((with_reducible refine gate_builtin (b := .append) (xs := #[.tmp 5, .tmp 6]) rfl ?_); at_builtin; refine Kd.N_append_rows k29 (w0 := w) w.heap.size rfl (.tmp 5) (.tmp 6) 30 29 (.agg #[(.slice none 0 0), (.int .i64 0), (.int .i64 0)]) 40 rfl Try.underlying30 info29 rfl (by decide) (by omega) v461 y1 l0 _ _ _ ok (fun k => ok k ∧ some k ≠ v461.ownBlock) rfl rfl ?aO ?aR (fun _ h => h) ?aF ?aB ?aS ?aL ?_; (case aR => exact Kd.F_mono HR0.1 (fun k hk => ⟨hk.1, fun e => Nat.lt_irrefl _ (Nat.lt_of_lt_of_le hk.2 (Kd.N_base HO462.1 k e.symm))⟩)); (case aB => exact HB.1); (case aF => exact (fun k hk => HOK.out k (Nat.le_trans HB.1.size hk))); (case aO => exact HO462.1); (case aS => exact HB.1.size); (case aL => have h1_ := LM.out; have h2_ : y1.length = 0 := (by rw [Ny1.1]; rfl); rw [h2_]; omega); intro v464 w9 ho hb hg hat; rw [Ny1.1, List.nil_append] at ho; have n2_ := zM hb; have n3_ := zM ho; clear HB HO462; have HB := n2_; have HO465 := n3_; clear n2_ n3_; clear ho hb hg hat))
  go_ret
  exact ⟨_, rfl, HO465.1, HB.1⟩
theorem same_calls (k : Nat) (A0 : Option Addr) (c0 : Nat) (l0 : List Int) (A1 : Option Addr) (c1 : Nat) (l1 : List Int) (gx : Nat) (b : Bool) (w : World) (hx : w.cell? ⟨gx, 0, none⟩ = some (.slice A1 l1.length c1)) (hr0 : Kd.C (Kd.int .i64) w A0 l0.length l0) (hc0 : l0.length ≤ c0) (hr1 : Kd.C (Kd.int .i64) w A1 l1.length l1) (hc1 : l1.length ≤ c1) (h : slices_Equal_int_int.f k l0 l1 = some b) :
  Calls Try.prog 83 #[.slice A0 l0.length c0, .pointer (some ⟨gx, 0, none⟩)] w fun e w' => e = .returned (.bool b) ∧ Below w.heap.size w w' := by
 have HR0 := zM hr0
 have HR1 := zM hr1
 have HC0 := zM hc0
 have HC1 := zM hc1
 have HA := zM h
 clear hr0 hr1 hc0 hc1 h
 go_enter Try.func83, Try.ntmps83
 go_wp2_with (first | (go_at_call 45; (refine (slices_Equal_int_int.calls k A0 c0 l0 A1 c1 l1 b _ HR0.1 HC0.1 HR1.1 HC1.1 HA.1).mono ?_); rintro e w8 ⟨rfl, hd⟩; have HB := zM hd.below; clear hd))
 go_ret
 exact ⟨rfl, HB.1⟩
theorem idxR_calls (k : Nat) (A0 : Option Addr) (c0 : Nat) (l0 : List (List Int)) (A1 : Option Addr) (c1 : Nat) (l1 : List Int) (gx : Nat) (v : Int) (w : World) (hx : w.cell? ⟨gx, 0, none⟩ = some (.slice A1 l1.length c1)) (hr0 : Kd.C (Kd.slice 3 (Kd.int .i64)) w A0 l0.length l0) (hc0 : l0.length ≤ c0) (hr1 : Kd.C (Kd.int .i64) w A1 l1.length l1) (hc1 : l1.length ≤ c1) (h : findR (fun m => slices_Equal_int_int.f k m l1) l0 0 = some v) :
  Calls Try.prog 110 #[.slice A0 l0.length c0, .func (.func 83) #[] #[.pointer (some ⟨gx, 0, none⟩)]] w fun e w' => e = .returned (.int .i64 v) ∧ Below w.heap.size w w' := by
 have HX := zM hx
 have HR0 := zM hr0
 have HR1 := zM hr1
 have HC1 := zM hc1
 have HV := zM h
 have HL := zM (show l0.length ≤ 9223372036854775807 from hr0.2.1)
 clear hr0 hr1 hc1 hx h
 have HB := zM (Below.refl w.heap.size w)
 go_enter Try.func110, Try.ntmps110
 go_wp2
 go_loopg [8] l0.length (fun kq v8 w' => ∃ i : Nat, v8 = .int .i64 i ∧ Aside0 (i + kq = l0.length) ∧ Aside0 (findR (fun m => slices_Equal_int_int.f k m l1) (l0.drop i) i = some v) ∧ Aside0 (Below w.heap.size w w'))
 case atStart => exact ⟨0, rfl, ⟨by omega⟩, ⟨HV.out⟩, ⟨HB.1⟩⟩
 case round =>
  clear HB
  obtain ⟨i, rfl, HI, HP, HB⟩ := hrel
  by_cases hi : i < l0.length
  rotate_left
  ·have d0 : decide ((i : Int) < (l0.length : Int)) = false := decide_eq_false (by omega)
   have hp := HP.1
   rw [List.drop_of_length_le (by omega)] at hp
   have HP' := zM (Option.some.inj (show some (-1 : Int) = some v from hp))
   clear hp HP
   go_wp2_with fail
   go_ret
   exact ⟨by rw [← HP'.out]; rfl, zB0⟩
  have HI2 := zM hi
  have d0 : decide ((i : Int) < (l0.length : Int)) = true := decide_eq_true (by omega)
  have hp := HP.1
  rw [findR_drop _ l0 i hi] at hp
  obtain ⟨b, hpb, hp⟩ := Option.bind_eq_some_iff.mp hp
  obtain ⟨ad, B0, d0_, e0, hx0, hl0, hi0⟩ := row_at HR0.1 i hi
  generalize l0.getD i ([] : List Int) = q at hpb hx0 hl0 hi0
  have AP := zM hpb
  have HL0 := zM hl0
  have HI0 := zM hi0
  clear hl0 hi0
  cases e0
  replace hx0 := zHx HB.1 hx0
  have p1 : (0 ≤ (i : Int)) = True := eq_true (by omega)
  have p2' : ((i : Int) < (l0.length : Int)) = True := eq_true (by omega)
  cases b with
  | true =>
   have HP' := zM (Option.some.inj hp)
   clear hp HP hpb
   go_wp2_with (first | (go_at_call 83; (refine (same_calls k B0 d0_ q A1 c1 l1 gx true _ ((HB.1.cell (World.block_lt_of_cell? w _ HX.out)).trans HX.out) (Kd.C_below HI0.1 HB.1) HL0.1 (Kd.C_below HR1.1 HB.1) HC1.1 AP.out).mono ?_); rintro e w8 ⟨rfl, hb⟩; have n0_ := zM (below_step HB.1 hb); clear HB; have HB := n0_; clear n0_; clear hb))
   go_ret
   exact ⟨by rw [← HP'.out]; rfl, zB0⟩
  | false =>
   have HP' := zM (show findR (fun m => slices_Equal_int_int.f k m l1) (l0.drop (i + 1)) (i + 1) = some v from hp)
   clear hp HP hpb
   go_wp2_with (first | (go_at_call 83; (refine (same_calls k B0 d0_ q A1 c1 l1 gx false _ ((HB.1.cell (World.block_lt_of_cell? w _ HX.out)).trans HX.out) (Kd.C_below HI0.1 HB.1) HL0.1 (Kd.C_below HR1.1 HB.1) HC1.1 AP.out).mono ?_); rintro e w8 ⟨rfl, hb⟩; have n0_ := zM (below_step HB.1 hb); clear HB; have HB := n0_; clear n0_; clear hb))
   go_roundg (gk - 1)
   case rel => exact ⟨i + 1, congrArg (Value.int .i64) (by have h1_ := HI2.1; have h2_ := HL.1; show wrap64 ((i : Int) + 1) = ((i + 1 : Nat) : Int); unfold wrap64; omega), ⟨by have := HI.1; have := HI2.1; omega⟩, ⟨HP'.out⟩, ⟨HB.1⟩⟩
   all_goals (have := HI.1; have := HI2.1; omega)
theorem hasR_calls (k : Nat) (A0 : Option Addr) (c0 : Nat) (l0 : List (List Int)) (A1 : Option Addr) (c1 : Nat) (l1 : List Int) (gx : Nat) (v : Int) (w : World) (hx : w.cell? ⟨gx, 0, none⟩ = some (.slice A1 l1.length c1)) (hr0 : Kd.C (Kd.slice 3 (Kd.int .i64)) w A0 l0.length l0) (hc0 : l0.length ≤ c0) (hr1 : Kd.C (Kd.int .i64) w A1 l1.length l1) (hc1 : l1.length ≤ c1) (h : findR (fun m => slices_Equal_int_int.f k m l1) l0 0 = some v) :
  Calls Try.prog 82 #[.slice A0 l0.length c0, .func (.func 83) #[] #[.pointer (some ⟨gx, 0, none⟩)]] w fun e w' => e = .returned (.bool (decide (v ≥ 0))) ∧ Below w.heap.size w w' := by
 have HX := zM hx
 have HR0 := zM hr0
 have HR1 := zM hr1
 have HC0 := zM hc0
 have HC1 := zM hc1
 have HV := zM h
 clear hr0 hr1 hc0 hc1 hx h
 have HB := zM (Below.refl w.heap.size w)
 go_enter Try.func82, Try.ntmps82
 go_wp2_with (first
  | (go_at_call 110; (refine (idxR_calls k A0 c0 l0 A1 c1 l1 gx v _ HX.out HR0.1 HC0.1 HR1.1 HC1.1 HV.out).mono ?_); rintro e w8 ⟨rfl, hb⟩; have n0_ := zM (below_step HB.1 hb); clear HB; have HB := n0_; clear n0_; clear hb))
 go_ret
 exact ⟨rfl, zB0⟩
/-! #### what the finder holds -/
def beenD : List (List UInt8) → DataW Unit
 | [] => .map []
 | s :: r => (beenD r).put (.string s) (.lit (.int .i64 1))
theorem beenD_map : ∀ bs, Maps.IsMap (beenD bs)
 | [] => Maps.isMap_empty
 | _ :: r => (beenD_map r).put _ _
theorem beenD_at (s : List UInt8) : ∀ bs, (beenD bs).atKey (.string s) (.lit (.int .i64 0)) = .lit (.int .i64 (if s ∈ bs then 1 else 0))
 | [] => rfl
 | b :: r => by
  by_cases h : s = b
  rotate_left
  ·have e := beenD_at s r
   unfold beenD
   rw [Maps.atKey_put_other (fun q => h (Lit.string.inj q)), e]
   simp [h]
  subst h
  rw [if_pos (List.mem_cons_self ..)]
  exact Maps.atKey_put_same (beenD_map r) (show WideAt.IsKeyLit (Lit.string s) from trivial) _ _
theorem find_zero3 (w : World) : (zeroValue 3).run Try.prog w = .ok (.int .i64 0) w := by kernel_rfl
theorem ownsMap_eq {P : Program} {k : TypeId} {R : Value → Option (DataW Unit × List MemPlace)} {w w1 : World} {b n : Nat} {D : DataW Unit} (h : w.ownsMap P k R b n D) (e : w1.heap[b]? = w.heap[b]?) : w1.ownsMap P k R b n D := by
 obtain ⟨es, c, hb, r⟩ := h
 exact ⟨es, c, e.trans hb, r⟩
/-- The finder at g, its map at gb, its row v. -/
structure Fd (w0 w : World) (g gb : Nat) (v : Value) (been : List (List UInt8)) (ends : List (List Int)) : Prop where
 bk : w.heap[g]? = some (.cells #[.map (some gb), v] 76 (0, 0))
 mp : w.ownsMap Try.prog 9 (plainElem (H := Unit) Try.prog 3) gb been.length (beenD been)
 so : Kd.S (Kd.slice 3 (Kd.int .i64)) 24 w w0.heap.size (fun k => k ≠ g ∧ k ≠ gb) v ends
 lo : w0.heap.size ≤ g ∧ w0.heap.size ≤ gb
def Wr (g gb : Nat) (v : Value) (k : Nat) : Prop := k = g ∨ k = gb ∨ some k = v.ownBlock
section
variable {w0 w w1 w2 W W2 : World} {g gb gx : Nat} {v v1 v' : Value} {been been' : List (List UInt8)} {ends ends' : List (List Int)} {A0 A1 : Option Addr} {c0 : Nat} {l0 : List Int} {l1 : List S29}
theorem Fd.gne (h : Fd w0 w g gb v been ends) : g ≠ gb := by
 rintro rfl
 obtain ⟨es, c, hb, _⟩ := h.mp
 have := h.bk.symm.trans hb
 simp at this
theorem Fd.below (h : Fd w0 w g gb v been ends) (hb : Below w.heap.size w w1) : Fd w0 w1 g gb v been ends :=
 ⟨blk_below h.bk hb, ownsMap_eq h.mp (hb.block _ h.mp.lt), Kd.S_below h.so hb, h.lo⟩
/-- All that is written is new, or the finder's. -/
theorem Fd.wlt (h : Fd w0 w g gb v been ends) (k : Nat) (hk : Wr g gb v k) : k < w.heap.size := by
 rcases hk with rfl | rfl | hk
 ·exact blk_lt h.bk
 ·exact h.mp.lt
 ·exact Kd.S_lt h.so k hk.symm
theorem Fd.wlo (h : Fd w0 w g gb v been ends) (k : Nat) (hk : Wr g gb v k) : w0.heap.size ≤ k := by
 rcases hk with rfl | rfl | hk
 ·exact h.lo.1
 ·exact h.lo.2
 ·exact Kd.S_base h.so k hk.symm
/-- What a round of find knows. -/
structure FL (w0 w1 W : World) (g gb gx : Nat) (v1 v : Value) (been : List (List UInt8)) (ends : List (List Int)) (A0 : Option Addr) (c0 : Nat) (l0 : List Int) (A1 : Option Addr) (l1 : List S29) : Prop where
 fd : Fd w0 W g gb v been ends
 hm : Kd.F (Kd.int .i64) W (fun k => ¬ Wr g gb v k) A0 l0.length l0
 hh : Kd.F k29 W (fun k => ¬ Wr g gb v k) A1 l1.length l1
 bx : W.heap[gx]? = some (.cells #[.slice A0 l0.length c0] 24 (0, 0))
 xn : ¬ Wr g gb v gx
 xw : w1.heap.size ≤ gx
 kp : Kept w1 W (Wr g gb v1)
 hat : v.ownBlock = v1.ownBlock ∨ ∃ b, v.ownBlock = some b ∧ w1.heap.size ≤ b
 bl : Below w0.heap.size w0 W
theorem FL.below (h : FL w0 w1 W g gb gx v1 v been ends A0 c0 l0 A1 l1) (hb : Below W.heap.size W W2) : FL w0 w1 W2 g gb gx v1 v been ends A0 c0 l0 A1 l1 :=
 ⟨h.fd.below hb, Kd.F_below h.hm hb, Kd.F_below h.hh hb, blk_below h.bx hb, h.xn, h.xw, h.kp.below hb, h.hat, below_step h.bl hb⟩
theorem FL.after (h : FL w0 w1 W g gb gx v1 v been ends A0 c0 l0 A1 l1) (hf : Fd w0 W2 g gb v' been' ends') (hat : v'.ownBlock = v.ownBlock ∨ ∃ b, v'.ownBlock = some b ∧ W.heap.size ≤ b) (kp : Kept W W2 (Wr g gb v)) (hb : Below w0.heap.size w0 W2) :
  FL w0 w1 W2 g gb gx v1 v' been' ends' A0 c0 l0 A1 l1 := by
 have hn : ∀ k, ¬ Wr g gb v k → k < W.heap.size → ¬ Wr g gb v' k := by
  rintro k h1 h2 (rfl | rfl | h3)
  ·exact h1 (.inl rfl)
  ·exact h1 (.inr (.inl rfl))
  ·rcases hat with e | ⟨b, e, hb⟩
   ·exact h1 (.inr (.inr (h3.trans e)))
   ·rw [e] at h3; cases h3; omega
 refine ⟨hf, ?_, ?_, blk_kept h.bx kp h.xn, hn _ h.xn (blk_lt h.bx), h.xw, h.kp.then_ kp ?_, ?_, hb⟩
 ·exact Kd.F_mono (Kd.F_kept (Kd.F_bound h.hm) kp (fun k hk => hk.1)) (fun k hk => hn k hk.1 hk.2)
 ·exact Kd.F_mono (Kd.F_kept (Kd.F_bound h.hh) kp (fun k hk => hk.1)) (fun k hk => hn k hk.1 hk.2)
 ·rintro k (rfl | rfl | hk)
  ·exact .inl (.inl rfl)
  ·exact .inl (.inr (.inl rfl))
  ·rcases h.hat with e | ⟨b, e, hb⟩
   ·exact .inl (.inr (.inr (hk.trans e)))
   ·rw [e] at hk; cases hk; exact .inr hb
 ·rcases hat with e | ⟨b, e, hb⟩
  ·rw [e]; exact h.hat
  ·exact .inr ⟨b, e, Nat.le_trans h.kp.1 hb⟩
/-- Nothing but what is new has been written since. -/
theorem below_of_kept {S : Nat → Prop} (h1 : Below w0.heap.size w0 w1) (h2 : Below w0.heap.size w0 w2) (k : Kept w1 w2 S) (hS : ∀ k, S k → w1.heap.size ≤ k) : Below w1.heap.size w1 w2 :=
 ⟨h2.os.trans h1.os.symm, h2.tape.trans h1.tape.symm, h2.output.trans h1.output.symm, k.1, fun i hi => k.2 i hi (fun h => by have := hS i h; omega)⟩
end
def keyN (b : List Int) (n : Int) : ByteArray := strOfNums b ++ Go.Utf8.encode (wrap32 n)
mutual
def impl_find.f : Nat → List (List UInt8) → List (List Int) → List Int → List S29 → Int → Option (List (List UInt8) × List (List Int))
 | 0, _, _, _, _, _ => none
 | k + 1, been, ends, l0, l1, n => if ends.length = 40 then some (been, ends) else if l0.length ≤ 1000 ∧ l1.length ≤ 1000 ∧ been.length ≤ 1000000000 ∧ ends.length ≤ 40 then
   (impl_SaveBytes.f k l0 l1).bind fun b => if (keyN b n).size ≤ 1000 then (if (keyN b n).data.toList ∈ been then some (been, ends) else impl_find.l0 k ((keyN b n).data.toList :: been) ends l0 l1 n false 0) else none
  else none
def impl_find.l0 : Nat → List (List UInt8) → List (List Int) → List Int → List S29 → Int → Bool → Nat → Option (List (List UInt8) × List (List Int))
 | 0, _, _, _, _, _, _, _ => none
 | k + 1, been, ends, l0, l1, n, mv, i => if i < l1.length then
   (if n = 0 then impl_find.l0 k been ends l0 l1 n mv (i + 1) else if (rd_T29 l1 (i : Int)).f2 = 0 then
    (impl_step.f k l0 (rd_T29 l1 (i : Int)).f0 (rd_T29 l1 (i : Int)).f1 (rd_T29 l1 (i : Int)).f2).bind fun t => (impl_find.f k been ends t.2.2.2 (l1.set i ⟨t.1, t.2.1, t.2.2.1⟩) (wrap64 (n - 1))).bind fun q => impl_find.l0 k q.1 q.2 l0 l1 n true (i + 1)
   else impl_find.l0 k been ends l0 l1 n mv (i + 1))
  else if mv = true then some (been, ends) else if ends.length < 40 then (findR (fun m => slices_Equal_int_int.f k m l0) ends 0).bind fun j => if j ≥ 0 then some (been, ends) else some (been, ends ++ [l0]) else some (been, ends)
end
theorem key_of {s : ByteArray} (hs : s.size ≤ 1000) : keyOf Try.prog 9 (.string s) = some (.string s.data.toList) := by
 have hm : s.size ≤ maxLen := Nat.le_trans hs (by decide)
 simp [keyOf, mapKey, Try.underlying9, hm]
theorem beenD_one {k : IntKind} {a c : Int} (h : (DataW.lit (.int k a) : DataW Unit) = .lit (.int k c)) : c = a := by injection h with h; injection h with _ h; exact h.symm
theorem find_full (A0 : Option Addr) (c0 : Nat) (l0 : List Int) (a1 : Value) (n : Int) (L gb g : Nat) (Av : Option Addr) (cv : Nat) (w : World) (hg : w.heap[g]? = some (.cells #[.map (some gb), .slice Av L cv] 76 (0, 0))) (hl : L = 40) :
  Calls Try.prog 59 #[.pointer (some ⟨g, 0, none⟩), .slice A0 l0.length c0, a1, .int .i64 n] w fun e w' => e = .returned (.tuple #[]) ∧ Below w.heap.size w w' := by
 have HG := zM hg
 have HL := zM hl
 clear hg hl
 have HB := zM (Below.refl w.heap.size w)
 have d1 : ((L : Int) == 40) = true := by rw [beq_iff_eq]; have := HL.1; omega
 go_enter Try.func59, Try.ntmps59
 go_wp2_with (first
  | ((with_reducible refine zBx 5 24 #[.slice A0 l0.length c0] ?_); intro gx hg w1 hbox hb; have n0_ := zM (below_step HB.1 hb); have hcg : w1.cell? ⟨g, 1, none⟩ = some (.slice Av L cv) := (blk_cell (blk_below HG.1 hb) 1).trans rfl; clear HB; have HB := n0_; clear n0_; clear hg hb hbox))
 refine bodyPost_ret (results_none rfl _ _ _) rfl ?_
 exact ⟨rfl, HB.1⟩
/-- The two steps ahead: the finder is not full, the key is reckoned. -/
theorem FL.start {w0 w w1 : World} {g gb : Nat} {v : Value} {been : List (List UInt8)} {ends : List (List Int)} {A0 A1 : Option Addr} {c0 : Nat} {l0 : List Int} {l1 : List S29} (hB : Below w0.heap.size w0 w) (hf : Fd w0 w g gb v been ends) (hm : Kd.F (Kd.int .i64) w (fun k => ¬ Wr g gb v k) A0 l0.length l0) (hh : Kd.F k29 w (fun k => ¬ Wr g gb v k) A1 l1.length l1) (hb : Below w.heap.size w w1) (hx : w1.heap[w.heap.size]? = some (.cells #[.slice A0 l0.length c0] 24 (0, 0))) :
  FL w0 w w1 g gb w.heap.size v v been ends A0 c0 l0 A1 l1 :=
 ⟨hf.below hb, Kd.F_below hm hb, Kd.F_below hh hb, hx, fun h => Nat.lt_irrefl _ (hf.wlt _ h), Nat.le_refl _, Kept.of_below hb _, .inl rfl, below_step hB hb⟩
theorem find_seen (k : Nat) (A0 : Option Addr) (c0 : Nat) (l0 : List Int) (A1 : Option Addr) (c1 : Nat) (l1 : List S29) (n : Int) (been : List (List UInt8)) (ends : List (List Int)) (g gb : Nat) (Av : Option Addr) (cv : Nat) (b : List Int) (w0 w : World) (hB : Below w0.heap.size w0 w) (hf : Fd w0 w g gb (.slice Av ends.length cv) been ends) (hm : Kd.F (Kd.int .i64) w (fun k => ¬ Wr g gb (.slice Av ends.length cv) k) A0 l0.length l0) (hc0 : l0.length ≤ c0) (hh : Kd.F k29 w (fun k => ¬ Wr g gb (.slice Av ends.length cv) k) A1 l1.length l1) (hc1 : l1.length ≤ c1) (e40 : ends.length ≠ 40) (hb : impl_SaveBytes.f k l0 l1 = some b) (hs : (keyN b n).size ≤ 1000) (hk : (keyN b n).data.toList ∈ been) :
  Calls Try.prog 59 #[.pointer (some ⟨g, 0, none⟩), .slice A0 l0.length c0, .slice A1 l1.length c1, .int .i64 n] w fun e w' => e = .returned (.tuple #[]) ∧ Below w.heap.size w w' := by
 have HC0 := zM hc0
 have HC1 := zM hc1
 have HA := zM hb
 have HK := zM hk
 have HST := zM (fun w1 => FL.start (w1 := w1) (c0 := c0) hB hf hm hh)
 have HZ := zM hs
 have HB := zM (Below.refl w.heap.size w)
 have d1 : ((ends.length : Int) == 40) = false := by rw [beq_eq_false_iff_ne]; omega
 have d2 : (9223372036854775807 < (strOfNums b).size + (Go.Utf8.encode (wrap32 n)).size) = False := eq_false (by unfold keyN at hs; rw [ByteArray.size_append] at hs; omega)
 clear hB hf hm hc0 hh hc1 e40 hb hs hk
 go_enter Try.func59, Try.ntmps59
 go_wp2_with (first
  | ((with_reducible refine zBx 5 24 #[.slice A0 l0.length c0] ?_); intro gx hg w1 hbox hb; subst hg; have HF := zM (HST.out w1 hb hbox); have n0_ := zM (below_step HB.1 hb); have hcg : w1.cell? ⟨g, 1, none⟩ = some (.slice Av ends.length cv) := (blk_cell HF.out.fd.bk 1).trans rfl; have hcx : w1.cell? ⟨w.heap.size, 0, none⟩ = some (.slice A0 l0.length c0) := (blk_cell HF.out.bx 0).trans rfl; clear HB; have HB := n0_; clear n0_; clear hb hbox)
  | (go_at_call 80; (refine (impl_SaveBytes.calls k A0 c0 l0 A1 c1 l1 b _ (Kd.F_now HF.out.hm) HC0.1 (Kd.F_now HF.out.hh) HC1.1 HA.1).mono ?_); rintro e w2 ⟨v0, rfl, ho, hb⟩; have hcv := own_string (P := Try.prog) Try.underlying22 Try.underlying5 Try.underlying9 (Kd.own_of_R ho); have n0_ := zM (HF.out.below hb); have n1_ := zM (below_step HB.1 hb); clear HF HB hcg hcx; have HF := n0_; have HB := n1_; clear n0_ n1_ hb ho; have hcg : w2.cell? ⟨g, 0, none⟩ = some (.map (some gb)) := (blk_cell HF.out.fd.bk 0).trans rfl)
  | (at_lookup; refine wpList_lookup_own_int _ rfl _ _ 74 rfl 9 3 .i64 (Maps.string_keyed Try.underlying9) Try.underlying74 Try.underlying3 (find_zero3 _) gb been.length (beenD been) rfl HF.out.fd.mp (.string (keyN b n)) (.string (keyN b n).data.toList) rfl (key_of HZ.out) ?_; intro c hat hwc; rw [beenD_at, if_pos HK.1] at hat; have hc2 := beenD_one hat; subst hc2; clear hat hwc))
 refine bodyPost_ret (results_none rfl _ _ _) rfl ?_
 exact ⟨rfl, HB.1⟩
theorem FL.marked {w0 w1 W W2 : World} {g gb gx : Nat} {v1 v : Value} {been : List (List UInt8)} {ends : List (List Int)} {A0 A1 : Option Addr} {c0 : Nat} {l0 : List Int} {l1 : List S29} {s : List UInt8} (h : FL w0 w1 W g gb gx v1 v been ends A0 c0 l0 A1 l1)
  (hm : W2.ownsMap Try.prog 9 (plainElem (H := Unit) Try.prog 3) gb (been.length + 1) ((beenD been).put (.string s) (.lit (.int .i64 1)))) (hg : W.grownBy W2 (some gb)) : FL w0 w1 W2 g gb gx v1 v (s :: been) ends A0 c0 l0 A1 l1 := by
 have kp : Kept W W2 (Wr g gb v) := ⟨hg.size, fun i hi hn => hg.block i hi (fun e => hn (.inr (.inl (Option.some.inj e))))⟩
 refine h.after (v' := v) ⟨?_, hm, ?_, h.fd.lo⟩ (.inl rfl) kp ?_
 ·exact (hg.block g (blk_lt h.fd.bk) (fun e => h.fd.gne (Option.some.inj e))).trans h.fd.bk
 ·exact Kd.S_grown h.fd.so hg (fun k hk e => hk.2 (Option.some.inj e))
 ·exact h.bl.grown hg h.bl.size (fun k e => by cases e; exact h.fd.lo.2)
theorem FL.drew {w0 w1 W : World} {g gb gx : Nat} {v1 v : Value} {been : List (List UInt8)} {ends : List (List Int)} {A0 A1 : Option Addr} {c0 : Nat} {l0 : List Int} {l1 : List S29} (h : FL w0 w1 W g gb gx v1 v been ends A0 c0 l0 A1 l1) : FL w0 w1 W.drew g gb gx v1 v been ends A0 c0 l0 A1 l1 := h.below (Below.refl _ W).drew
theorem FL.pushed {w0 w1 W W2 : World} {g gb gx : Nat} {v1 v v2 : Value} {been : List (List UInt8)} {ends ends2 : List (List Int)} {A0 A1 : Option Addr} {c0 : Nat} {l0 : List Int} {l1 : List S29} (h : FL w0 w1 W g gb gx v1 v been ends A0 c0 l0 A1 l1)
  (hS : Kd.S (Kd.slice 3 (Kd.int .i64)) 24 W2 w0.heap.size (fun k => k ≠ g ∧ k ≠ gb) v2 ends2) (hg : W.grownBy W2 v.ownBlock) (hat : v2.ownBlock = v.ownBlock ∨ ∃ b, v2.ownBlock = some b ∧ W.heap.size ≤ b) :
  Fd w0 (W2.setCell ⟨g, 1, none⟩ v2) g gb v2 been ends2 ∧ (v2.ownBlock = v1.ownBlock ∨ ∃ b, v2.ownBlock = some b ∧ w1.heap.size ≤ b) ∧ Kept w1 (W2.setCell ⟨g, 1, none⟩ v2) (Wr g gb v1) ∧ Below w0.heap.size w0 (W2.setCell ⟨g, 1, none⟩ v2) := by
 have hgo : ∀ k, v.ownBlock = some k → Wr g gb v1 k ∨ w1.heap.size ≤ k := by
  intro k e
  rcases h.hat with q | ⟨b, q, hb⟩
  ·exact .inl (.inr (.inr (e.symm.trans q)))
  ·rw [q] at e; cases e; exact .inr hb
 refine ⟨⟨?_, ?_, Kd.S_far (p := ⟨g, 1, none⟩) hS (fun k hk => hk.1) v2, h.fd.lo⟩, ?_, ?_, ?_⟩
 ·exact blk_put (blk_grown h.fd.bk hg (Kd.S_away h.fd.so (fun k hk => hk.1))) 1 v2 rfl
 ·refine ownsMap_eq h.fd.mp ?_
  rw [Below.heap_setCell _ _ _ _ (fun e => h.fd.gne e.symm)]
  exact hg.block gb h.fd.mp.lt (Kd.S_away h.fd.so (fun k hk => hk.2))
 ·rcases hat with e | ⟨b, e, hb⟩
  ·rw [e]; exact h.hat
  ·exact .inr ⟨b, e, Nat.le_trans h.kp.1 hb⟩
 ·exact (Kept.of_grown hg h.kp hgo).setCell (p := ⟨g, 1, none⟩) (.inl (.inl rfl)) v2
 ·exact (h.bl.grown hg h.bl.size (fun k e => Kd.S_base h.fd.so k e)).setCell (p := ⟨g, 1, none⟩) h.fd.lo.1 v2
theorem find_pair_inj {α β : Type} {a c : α} {b d : β} (h : some (a, b) = some (c, d)) : a = c ∧ b = d := by cases h; exact ⟨rfl, rfl⟩
theorem impl_find.calls : ∀ (k : Nat) (A0 : Option Addr) (c0 : Nat) (l0 : List Int) (A1 : Option Addr) (c1 : Nat) (l1 : List S29) (n : Int) (been been' : List (List UInt8)) (ends ends' : List (List Int)) (g gb : Nat) (v : Value) (w0 w : World) (hB : Below w0.heap.size w0 w) (hf : Fd w0 w g gb v been ends) (hm : Kd.F (Kd.int .i64) w (fun k => ¬ Wr g gb v k) A0 l0.length l0) (hc0 : l0.length ≤ c0) (hh : Kd.F k29 w (fun k => ¬ Wr g gb v k) A1 l1.length l1) (hc1 : l1.length ≤ c1) (h : impl_find.f k been ends l0 l1 n = some (been', ends')),
  Calls Try.prog 59 #[.pointer (some ⟨g, 0, none⟩), .slice A0 l0.length c0, .slice A1 l1.length c1, .int .i64 n] w fun e w' => ∃ v', e = .returned (.tuple #[]) ∧ Fd w0 w' g gb v' been' ends' ∧ (v'.ownBlock = v.ownBlock ∨ ∃ b, v'.ownBlock = some b ∧ w.heap.size ≤ b) ∧ Kept w w' (Wr g gb v) ∧ Below w0.heap.size w0 w' := by
 intro k
 induction k using Nat.strongRecOn with
 | _ k ih =>
 intro A0 c0 l0 A1 c1 l1 n been been' ends ends' g gb v w0 w hB hf hm hc0 hh hc1 h
 cases k with
 | zero => exact absurd h (by simp [impl_find.f])
 | succ k =>
 have IH := zM ih
 clear ih
 obtain ⟨Av, cv, rfl⟩ := Kd.S_slice hf.so
 rw [impl_find.f] at h
 by_cases e40 : ends.length = 40
 ·rw [if_pos e40] at h
  cases h
  refine (find_full A0 c0 l0 _ n ends.length gb g Av cv w hf.bk e40).mono ?_
  rintro e w' ⟨rfl, hb⟩
  exact ⟨_, rfl, hf.below hb, .inl rfl, Kept.of_below hb _, below_step hB hb⟩
 rw [if_neg e40] at h
 by_cases gd : l0.length ≤ 1000 ∧ l1.length ≤ 1000 ∧ been.length ≤ 1000000000 ∧ ends.length ≤ 40
 rotate_left
 ·rw [if_neg gd] at h; cases h
 rw [if_pos gd] at h
 obtain ⟨b, hb, h⟩ := Option.bind_eq_some_iff.mp h
 by_cases hs : (keyN b n).size ≤ 1000
 rotate_left
 ·rw [if_neg hs] at h; cases h
 rw [if_pos hs] at h
 by_cases hk : (keyN b n).data.toList ∈ been
 ·rw [if_pos hk] at h
  cases h
  refine (find_seen k A0 c0 l0 A1 c1 l1 n been ends g gb Av cv b w0 w hB hf hm hc0 hh hc1 e40 hb hs hk).mono ?_
  rintro e w' ⟨rfl, hb⟩
  exact ⟨_, rfl, hf.below hb, .inl rfl, Kept.of_below hb _, below_step hB hb⟩
 rw [if_neg hk] at h
 have HC0 := zM hc0
 have HC1 := zM hc1
 have HA := zM hb
 have HK := zM hk
 have HG := zM gd
 have HST := zM (fun w1 => FL.start (w1 := w1) (c0 := c0) hB hf hm hh)
 have HZ := zM hs
 have HH := zM h
 have d1 : ((ends.length : Int) == 40) = false := by rw [beq_eq_false_iff_ne]; omega
 have d2 : (9223372036854775807 < (strOfNums b).size + (Go.Utf8.encode (wrap32 n)).size) = False := eq_false (by unfold keyN at hs; rw [ByteArray.size_append] at hs; omega)
 clear hB hf hm hc0 hh hc1 e40 hb hs hk gd h
 go_enter Try.func59, Try.ntmps59
 go_wp2_with (first
  | ((with_reducible refine zBx 5 24 #[.slice A0 l0.length c0] ?_); intro gx hg w1 hbox hb; subst hg; have HF := zM (HST.out w1 hb hbox); have hcg : w1.cell? ⟨g, 1, none⟩ = some (.slice Av ends.length cv) := (blk_cell HF.out.fd.bk 1).trans rfl; have hcx : w1.cell? ⟨w.heap.size, 0, none⟩ = some (.slice A0 l0.length c0) := (blk_cell HF.out.bx 0).trans rfl; clear HST hb hbox)
  | (go_at_call 80; (refine (impl_SaveBytes.calls k A0 c0 l0 A1 c1 l1 b _ (Kd.F_now HF.out.hm) HC0.1 (Kd.F_now HF.out.hh) HC1.1 HA.1).mono ?_); rintro e w2 ⟨v0, rfl, ho, hb⟩; have hcv := own_string (P := Try.prog) Try.underlying22 Try.underlying5 Try.underlying9 (Kd.own_of_R ho); have n0_ := zM (HF.out.below hb); clear HF hcg hcx; have HF := n0_; clear n0_ hb ho; have hcg : w2.cell? ⟨g, 0, none⟩ = some (.map (some gb)) := (blk_cell HF.out.fd.bk 0).trans rfl)
  | (at_lookup; refine wpList_lookup_own_int _ rfl _ _ 74 rfl 9 3 .i64 (Maps.string_keyed Try.underlying9) Try.underlying74 Try.underlying3 (find_zero3 _) gb been.length (beenD been) rfl HF.out.fd.mp (.string (keyN b n)) (.string (keyN b n).data.toList) rfl (key_of HZ.out) ?_; intro c hat hwc; rw [beenD_at, if_neg HK.1] at hat; have hc2 := beenD_one hat; subst hc2; clear hat hwc)
  | (at_mapUpdate; refine wpList_mapUpdate_own _ rfl _ _ _ 74 rfl 9 3 (Maps.string_keyed Try.underlying9) Try.underlying74 _ gb been.length (beenD been) rfl HF.out.fd.mp (Nat.lt_of_le_of_lt HG.1.2.2.1 (by decide)) (.string (keyN b n)) (.int .i64 1) (.string (keyN b n).data.toList) rfl rfl (key_of HZ.out) (.lit (.int .i64 1)) [] (plainElem_int Try.underlying3 (by decide)) ?_; intro w3 hm3 hg3; have n0_ := zM (HF.out.marked hm3 hg3); clear HF hcg hm3 hg3; have HF := n0_; clear n0_))
 have HK1 := zM (Nat.le_refl k)
 go_loopg [9, 42] k (fun kq v9 v42 w' => ∃ (been1 : List (List UInt8)) (ends1 : List (List Int)) (v1 : Value) (mv : Bool) (i : Nat), v9 = .bool mv ∧ v42 = .int .i64 i ∧ Aside0 (impl_find.l0 kq been1 ends1 l0 l1 n mv i = some (been', ends')) ∧ Aside0 (kq ≤ k) ∧ Aside0 (FL w0 w w' g gb w.heap.size (.slice Av ends.length cv) v1 been1 ends1 A0 c0 l0 A1 l1))
 case atStart => exact ⟨_, ends, _, false, 0, rfl, rfl, ⟨HH.out⟩, ⟨Nat.le_refl _⟩, ⟨HF.out⟩⟩
 case round =>
  clear HF HH
  obtain ⟨been1, ends1, v1, mv, i, rfl, rfl, H0, HK2, HF⟩ := hrel
  cases gk with
  | zero => exact absurd H0.out (by simp [impl_find.l0])
  | succ gk =>
  have H := H0.out
  rw [impl_find.l0] at H
  clear H0
  by_cases ci : i < l1.length
  rotate_left
  ·rw [if_neg ci] at H
   obtain ⟨Av1, cv1, rfl⟩ := Kd.S_slice HF.out.fd.so
   have d3 : decide ((i : Int) < (l1.length : Int)) = false := decide_eq_false (by omega)
   by_cases cm : mv = true
   ·rw [if_pos cm] at H
    obtain ⟨e1_, e2_⟩ := find_pair_inj H
    subst e1_
    subst e2_
    subst cm
    go_wp2
    go_end0
    first | exact ⟨_, rfl, HF.out.fd, HF.out.hat, HF.out.kp, HF.out.bl⟩ | exact ⟨rfl, _, HF.out.fd, HF.out.hat, HF.out.kp, HF.out.bl⟩
   rw [if_neg cm] at H
   replace cm := Bool.eq_false_iff.mpr cm
   subst cm
   have hcg : wr.cell? ⟨g, 1, none⟩ = some (.slice Av1 ends1.length cv1) := (blk_cell HF.out.fd.bk 1).trans rfl
   by_cases c4 : ends1.length < 40
   rotate_left
   ·rw [if_neg c4] at H
    obtain ⟨e1_, e2_⟩ := find_pair_inj H
    subst e1_
    subst e2_
    have d4 : decide ((ends1.length : Int) < 40) = false := decide_eq_false (by omega)
    go_wp2
    go_end0
    first | exact ⟨_, rfl, HF.out.fd, HF.out.hat, HF.out.kp, HF.out.bl⟩ | exact ⟨rfl, _, HF.out.fd, HF.out.hat, HF.out.kp, HF.out.bl⟩
   rw [if_pos c4] at H
   obtain ⟨j, hj, H⟩ := Option.bind_eq_some_iff.mp H
   have AJ := zM hj
   have HG2 := zM c4
   have d4 : decide ((ends1.length : Int) < 40) = true := decide_eq_true (by omega)
   clear hj
   by_cases cj : j ≥ 0
   ·rw [if_pos cj] at H
    obtain ⟨e1_, e2_⟩ := find_pair_inj H
    subst e1_
    subst e2_
    have d5 : decide (j ≥ 0) = true := decide_eq_true cj
    go_wp2_with (first | (go_at_call 82; (refine (hasR_calls gk Av1 cv1 ends1 A0 c0 l0 w.heap.size j _ ((blk_cell HF.out.bx 0).trans rfl) (Kd.S_reads' HF.out.fd.so).2.2 (Kd.S_reads' HF.out.fd.so).2.1 (Kd.F_now HF.out.hm) HC0.1 AJ.out).mono ?_); rintro e w4 ⟨rfl, hb⟩; have n0_ := zM (HF.out.below hb); clear HF hcg hb; have HF := n0_; clear n0_))
    go_end0
    first | exact ⟨_, rfl, HF.out.fd, HF.out.hat, HF.out.kp, HF.out.bl⟩ | exact ⟨rfl, _, HF.out.fd, HF.out.hat, HF.out.kp, HF.out.bl⟩
   rw [if_neg cj] at H
   obtain ⟨e1_, e2_⟩ := find_pair_inj H
   subst e1_
   subst e2_
   have d5 : decide (j ≥ 0) = false := decide_eq_false cj
   go_wp2_with (first | (go_at_call 82; (refine (hasR_calls gk Av1 cv1 ends1 A0 c0 l0 w.heap.size j _ ((blk_cell HF.out.bx 0).trans rfl) (Kd.S_reads' HF.out.fd.so).2.2 (Kd.S_reads' HF.out.fd.so).2.1 (Kd.F_now HF.out.hm) HC0.1 AJ.out).mono ?_); rintro e w4 ⟨rfl, hb⟩; have n0_ := zM (HF.out.below hb); clear HF hcg hb; have HF := n0_; clear n0_))
   try go_wp2
   replace HF := zM (HF.out.drew)
   refine start_ (n := 12) (S := fun w' => w'.cell? ⟨g, 1, none⟩ = some (.slice Av1 ends1.length cv1) ∧ w'.cell? ⟨w.heap.size, 0, none⟩ = some (.slice A0 l0.length c0)) (ds := [11]) #[false, false, false, false, false, false, false, false, false, false, false, false] (by kernel_rfl) rfl rfl ⟨(blk_cell HF.out.fd.bk 1).trans rfl, (blk_cell HF.out.bx 0).trans rfl⟩ (fun hHeld => ?_)
   generalize w4.drew = wd at HF hHeld ⊢
   refine zPu 0 ?_
   refine zPu 1 ?_
   refine zPu 2 ?_
   refine zPu 3 ?_
   refine zTk2 4 hHeld ?_
   refine zTk2 5 hHeld ?_
   refine zOn 6 (some 96) fun K hK => ?_
   refine goes_ Try.func41 (by kernel_rfl) rfl #[.slice A0 l0.length c0] (by rfl) rfl rfl (by (try simp only [List.map_toArray, List.map_cons, List.map_nil]); first | done | rfl) ?_
   refine (slices_Clone_int_int.calls A0 c0 l0 l0 _ (Kd.F_now HF.out.hm) HC0.1 (if_pos (Nat.le_trans HG.1.1 (by decide)))).mono ?_
   rintro e w5 ⟨vn, rfl, ho, hb⟩
   refine ⟨_, rfl, ?_⟩
   obtain ⟨An, cx, eo⟩ := Kd.R_slice ho
   subst eo
   have HNX := zM ho
   have HSO := zM (Kd.S_elder' HF.out.fd.so (Kd.R_base ho) hb)
   have HNB := zM (show ∀ k, some k = (Value.slice An l0.length cx).ownBlock → (k ≠ g ∧ k ≠ gb) ∧ some k ≠ (Value.slice Av1 ends1.length cv1).ownBlock from fun k e_ => ⟨⟨fun q_ => Nat.lt_irrefl _ (Nat.lt_of_lt_of_le (blk_lt HF.out.fd.bk) (q_ ▸ Kd.R_base ho k e_.symm)), fun q_ => Nat.lt_irrefl _ (Nat.lt_of_lt_of_le HF.out.fd.mp.lt (q_ ▸ Kd.R_base ho k e_.symm))⟩, fun q_ => Nat.lt_irrefl _ (Nat.lt_of_lt_of_le (Kd.S_lt HF.out.fd.so k q_.symm) (Kd.R_base ho k e_.symm))⟩)
   have HBS := zM HF.out.bl.size
   replace HF := zM (HF.out.below hb)
   clear ho hb
   refine hK.out _ _ ⟨(blk_cell HF.out.fd.bk 1).trans rfl, (blk_cell HF.out.bx 0).trans rfl⟩ (fun hHeld => ?_)
   clear hK K
   refine zNo ?_
   refine zOn 7 (some 97) fun K hK => ?_
   refine value_ (w1 := ?_) (v := ?_) (by rfl) rfl ?_ ?_
   rotate_left 2
   ·go_simp
    constructor
    ·rfl
    ·rfl
   refine hK.out _ _ ⟨(blk_cell (blk_alloc HF.out.fd.bk _) 1).trans rfl, (blk_cell (blk_alloc HF.out.bx _) 0).trans rfl⟩ (fun hHeld => ?_)
   clear hK K
   refine zNo ?_
   refine zOn 8 (some 98) fun K hK => ?_
   refine Kd.S_append_step (Kd.slice 3 (Kd.int .i64)) (w0 := w0) w0.heap.size (by rfl) (.tmp 94) (.tmp 97) 37 24 (.slice none 0 0) 24 rfl Try.underlying37 info24 rfl (by decide) (by omega) (Value.slice Av1 ends1.length cv1) ends1 l0 [(Value.slice An l0.length cx)] (fun k => k ≠ g ∧ k ≠ gb) (fun k => some k = (Value.slice An l0.length cx).ownBlock) rfl rfl ?aP (fun k hk => HNB.out k hk) ?aF ?aO ?aB ?aS ?aL ?_
   (case aP => exact Kd.M_row (Kd.R_mono (Kd.R_lower (Kd.R_tight rfl HNX.out) HBS.out) (fun _ h_ => h_)))
   (case aF => exact (fun k hk => ⟨fun q_ => Nat.lt_irrefl _ (Nat.lt_of_lt_of_le (blk_lt HF.out.fd.bk) (q_ ▸ hk)), fun q_ => Nat.lt_irrefl _ (Nat.lt_of_lt_of_le HF.out.fd.mp.lt (q_ ▸ hk))⟩))
   (case aO => exact HSO.out)
   (case aB => exact HF.out.bl)
   (case aS => exact HF.out.bl.size)
   (case aL => have h_ := HG2.1; omega)
   intro v2 w6 hs6 hb6 hg6 hat6
   obtain ⟨Av2, cv2, ev2⟩ := Kd.S_slice hs6
   subst ev2
   have HPU := zM (HF.out.pushed hs6 hg6 hat6)
   have HB6 := zM (blk_grown HF.out.fd.bk hg6 (Kd.S_away HF.out.fd.so (fun k hk => hk.1)))
   have HX6 := zM (blk_grown HF.out.bx hg6 (fun e_ => HF.out.xn (.inr (.inr e_))))
   clear hs6 hb6 hg6 hat6
   have hfz := blk_frozen HB6.1 1
   refine hK.out _ _ ⟨(blk_cell HB6.1 1).trans rfl, (blk_cell HX6.out 0).trans rfl⟩ (fun hHeld => ?_)
   clear hK K
   refine zNo ?_
   refine zPu 9 ?_
   refine zPu 10 ?_
   refine last_ (i := 11) (N := none) #[true, true, true, true, true, true, true, true, true, true, true, true] rfl rfl (by kernel_rfl) (by decide) (fun K hK => ?_)
   refine skip_ (w1 := ?_) (by rfl) rfl ?_ ?_
   rotate_left
   ·go_simp
    rfl
   refine hK.out _ _ ?_
   clear hK K
   refine done_ (by kernel_rfl) ?_
   have HPV := HPU.out
   rw [show (ends1 ++ [l0]).length = ends1.length + 1 by simp] at HPV
   obtain ⟨e1_, e2_, e3_, e4_⟩ := HPV
   go_end0
   first | exact ⟨_, rfl, e1_, e2_, e3_, e4_⟩ | exact ⟨rfl, _, e1_, e2_, e3_, e4_⟩
  rw [if_pos ci] at H
  have HI := zM ci
  obtain ⟨ad, ua, uc, eA, hx0, hx1, hx2, hul, huF⟩ := at_FH HF.out.hh i ci
  have HUL := zM hul
  have HUF := zM huF
  clear hul huF
  cases eA
  have d3 : decide ((i : Int) < (l1.length : Int)) = true := decide_eq_true (by omega)
  have p1 : (0 ≤ (i : Int)) = True := eq_true (by omega)
  have p2 : ((i : Int) < (l1.length : Int)) = True := eq_true (by omega)
  by_cases cn : n = 0
  ·rw [if_pos cn] at H
   have HN := zM H
   have d4 : (n == 0) = true := beq_iff_eq.mpr cn
   clear H cn ci
   go_wp2_with (first
    | ((with_reducible refine zBx 11 29 #[.slice none 0 0, .int .i64 0, .int .i64 0] ?_); intro gh hg w2 hbox hb; have HW2 := zM (show wr.heap.size ≤ gh from Nat.le_of_eq hg.symm); have BKH := zM hbox; have HBR := zM hb; clear hg hbox hb hx0 hx1 hx2)
    | ((with_reducible refine gate_store (t := 29) (p := 11) rfl ?_); refine store_event (t := 29) (p := 11) (v := ?vo_) (w1 := (((w2.setCell ⟨gh, 0, none⟩ (.slice ua (rd_T29 l1 (i : Int)).f0.length uc)).setCell ⟨gh, 1, none⟩ (.int .i64 (rd_T29 l1 (i : Int)).f1)).setCell ⟨gh, 2, none⟩ (.int .i64 (rd_T29 l1 (i : Int)).f2))) ?hg ?ho ?hn ?hr ?_; (case ho => rfl); (case hg => rfl); (case hn => rfl); (case hr => have hz0 := (blk_cell BKH.out 0).trans rfl; have hz1 := (blk_cell BKH.out 1).trans rfl; have hz2 := (blk_cell BKH.out 2).trans rfl; have hf0 := blk_frozen BKH.out 0; have hf1 := blk_frozen BKH.out 1; have hf2 := blk_frozen BKH.out 2; first | (go_simp; done) | (go_simp; rfl)); intro w3 hw; obtain ⟨n0_, n1_⟩ := three_set hw BKH.out HBR.out HW2.1; have n2_ := zM n0_; have n3_ := zM n1_; clear BKH HBR hw n0_ n1_; have BKH := n2_; have HBR := n3_; clear n2_ n3_; have hch0 : w3.cell? ⟨gh, 0, none⟩ = some (.slice ua (rd_T29 l1 (i : Int)).f0.length uc) := (blk_cell BKH.out 0).trans rfl; have hch1 : w3.cell? ⟨gh, 1, none⟩ = some (.int .i64 (rd_T29 l1 (i : Int)).f1) := (blk_cell BKH.out 1).trans rfl; have hch2 : w3.cell? ⟨gh, 2, none⟩ = some (.int .i64 (rd_T29 l1 (i : Int)).f2) := (blk_cell BKH.out 2).trans rfl))
   go_roundg gk
   case measure => have := HK2.1; omega
   case rel => exact ⟨been1, ends1, v1, mv, i + 1, rfl, congrArg (Value.int .i64) (by have h1_ := HI.1; have h2_ := HG.1.2.1; show wrap64 ((i : Int) + 1) = ((i + 1 : Nat) : Int); unfold wrap64; omega), ⟨HN.out⟩, ⟨by have := HK2.1; omega⟩, ⟨HF.out.below HBR.out⟩⟩
  rw [if_neg cn] at H
  have d4 : (n == 0) = false := beq_eq_false_iff_ne.mpr cn
  by_cases cs : (rd_T29 l1 (i : Int)).f2 = 0
  rotate_left
  ·rw [if_neg cs] at H
   have d5 : ((rd_T29 l1 (i : Int)).f2 == 0) = false := beq_eq_false_iff_ne.mpr cs
   have HN := zM H
   clear H cn ci cs
   go_wp2_with (first
    | ((with_reducible refine zBx 11 29 #[.slice none 0 0, .int .i64 0, .int .i64 0] ?_); intro gh hg w2 hbox hb; have HW2 := zM (show wr.heap.size ≤ gh from Nat.le_of_eq hg.symm); have BKH := zM hbox; have HBR := zM hb; clear hg hbox hb hx0 hx1 hx2)
    | ((with_reducible refine gate_store (t := 29) (p := 11) rfl ?_); refine store_event (t := 29) (p := 11) (v := ?vo_) (w1 := (((w2.setCell ⟨gh, 0, none⟩ (.slice ua (rd_T29 l1 (i : Int)).f0.length uc)).setCell ⟨gh, 1, none⟩ (.int .i64 (rd_T29 l1 (i : Int)).f1)).setCell ⟨gh, 2, none⟩ (.int .i64 (rd_T29 l1 (i : Int)).f2))) ?hg ?ho ?hn ?hr ?_; (case ho => rfl); (case hg => rfl); (case hn => rfl); (case hr => have hz0 := (blk_cell BKH.out 0).trans rfl; have hz1 := (blk_cell BKH.out 1).trans rfl; have hz2 := (blk_cell BKH.out 2).trans rfl; have hf0 := blk_frozen BKH.out 0; have hf1 := blk_frozen BKH.out 1; have hf2 := blk_frozen BKH.out 2; first | (go_simp; done) | (go_simp; rfl)); intro w3 hw; obtain ⟨n0_, n1_⟩ := three_set hw BKH.out HBR.out HW2.1; have n2_ := zM n0_; have n3_ := zM n1_; clear BKH HBR hw n0_ n1_; have BKH := n2_; have HBR := n3_; clear n2_ n3_; have hch0 : w3.cell? ⟨gh, 0, none⟩ = some (.slice ua (rd_T29 l1 (i : Int)).f0.length uc) := (blk_cell BKH.out 0).trans rfl; have hch1 : w3.cell? ⟨gh, 1, none⟩ = some (.int .i64 (rd_T29 l1 (i : Int)).f1) := (blk_cell BKH.out 1).trans rfl; have hch2 : w3.cell? ⟨gh, 2, none⟩ = some (.int .i64 (rd_T29 l1 (i : Int)).f2) := (blk_cell BKH.out 2).trans rfl))
   go_roundg gk
   case measure => have := HK2.1; omega
   case rel => exact ⟨been1, ends1, v1, mv, i + 1, rfl, congrArg (Value.int .i64) (by have h1_ := HI.1; have h2_ := HG.1.2.1; show wrap64 ((i : Int) + 1) = ((i + 1 : Nat) : Int); unfold wrap64; omega), ⟨HN.out⟩, ⟨by have := HK2.1; omega⟩, ⟨HF.out.below HBR.out⟩⟩
  rw [if_pos cs] at H
  obtain ⟨⟨t1, t2, t3, t4⟩, hst, H⟩ := Option.bind_eq_some_iff.mp H
  obtain ⟨⟨been2, ends2⟩, hfi, H⟩ := Option.bind_eq_some_iff.mp H
  have AS := zM hst
  have AF := zM hfi
  have HN := zM H
  have d5 : ((rd_T29 l1 (i : Int)).f2 == 0) = true := beq_iff_eq.mpr cs
  clear H cn ci cs hst hfi
  go_wp2_with (first
   | ((with_reducible refine zBx 11 29 #[.slice none 0 0, .int .i64 0, .int .i64 0] ?_); intro gh hg w2 hbox hb; have HW2 := zM (show wr.heap.size ≤ gh from Nat.le_of_eq hg.symm); have BKH := zM hbox; have HBR := zM hb; clear hg hbox hb hx0 hx1 hx2)
   | ((with_reducible refine gate_store (t := 29) (p := 11) rfl ?_); refine store_event (t := 29) (p := 11) (v := ?vo_) (w1 := (((w2.setCell ⟨gh, 0, none⟩ (.slice ua (rd_T29 l1 (i : Int)).f0.length uc)).setCell ⟨gh, 1, none⟩ (.int .i64 (rd_T29 l1 (i : Int)).f1)).setCell ⟨gh, 2, none⟩ (.int .i64 (rd_T29 l1 (i : Int)).f2))) ?hg ?ho ?hn ?hr ?_; (case ho => rfl); (case hg => rfl); (case hn => rfl); (case hr => have hz0 := (blk_cell BKH.out 0).trans rfl; have hz1 := (blk_cell BKH.out 1).trans rfl; have hz2 := (blk_cell BKH.out 2).trans rfl; have hf0 := blk_frozen BKH.out 0; have hf1 := blk_frozen BKH.out 1; have hf2 := blk_frozen BKH.out 2; first | (go_simp; done) | (go_simp; rfl)); intro w3 hw; obtain ⟨n0_, n1_⟩ := three_set hw BKH.out HBR.out HW2.1; have n2_ := zM n0_; have n3_ := zM n1_; clear BKH HBR hw n0_ n1_; have BKH := n2_; have HBR := n3_; clear n2_ n3_; have hch0 : w3.cell? ⟨gh, 0, none⟩ = some (.slice ua (rd_T29 l1 (i : Int)).f0.length uc) := (blk_cell BKH.out 0).trans rfl; have hch1 : w3.cell? ⟨gh, 1, none⟩ = some (.int .i64 (rd_T29 l1 (i : Int)).f1) := (blk_cell BKH.out 1).trans rfl; have hch2 : w3.cell? ⟨gh, 2, none⟩ = some (.int .i64 (rd_T29 l1 (i : Int)).f2) := (blk_cell BKH.out 2).trans rfl; have hcx : w3.cell? ⟨w.heap.size, 0, none⟩ = some (.slice A0 l0.length c0) := (blk_cell (HF.out.below HBR.out).bx 0).trans rfl)
   | (go_at_call 41; (refine (slices_Clone_int_int.calls A0 c0 l0 l0 _ (Kd.F_now (HF.out.below HBR.out).hm) HC0.1 (if_pos (Nat.le_trans HG.1.1 (by decide)))).mono ?_); rintro e w4 ⟨vn, rfl, ho, hb⟩; obtain ⟨An, cx, eo⟩ := Kd.R_slice ho; subst eo; have HNX := zM (show Kd.R (Kd.int .i64) 3 w4 wr.heap.size (fun _ => True) (Value.slice An l0.length cx) l0 from Kd.R_lower ho HBR.out.size); have n0_ := zM (below_step HBR.out hb); have n1_ := zM (blk_below BKH.out hb); clear HBR BKH hch0 hch1 hch2 hcx ho hb; have HBR := n0_; have BKH := n1_; clear n0_ n1_; have hch0 : w4.cell? ⟨gh, 0, none⟩ = some (.slice ua (rd_T29 l1 (i : Int)).f0.length uc) := (blk_cell BKH.out 0).trans rfl; have hch1 : w4.cell? ⟨gh, 1, none⟩ = some (.int .i64 (rd_T29 l1 (i : Int)).f1) := (blk_cell BKH.out 1).trans rfl; have hch2 : w4.cell? ⟨gh, 2, none⟩ = some (.int .i64 (rd_T29 l1 (i : Int)).f2) := (blk_cell BKH.out 2).trans rfl)
   | (go_at_call 81; (refine (slices_CloneH.calls _ c1 l1 (fun k => ¬ Wr g gb v1 k ∧ some k ≠ (Value.slice An l0.length cx).ownBlock) _ (Kd.F_mono (Kd.F_below (Kd.F_bound HF.out.hh) HBR.out) (fun k hk => ⟨hk.1, fun e_ => Nat.lt_irrefl _ (Nat.lt_of_lt_of_le hk.2 (Kd.R_base HNX.out k e_.symm))⟩)) HC1.1 (fun k hk => ⟨fun hw => Nat.lt_irrefl _ (Nat.lt_of_lt_of_le (HF.out.fd.wlt k hw) (Nat.le_trans HBR.out.size hk)), fun e_ => Nat.lt_irrefl _ (Nat.lt_of_lt_of_le (Kd.R_lt HNX.out k e_.symm) hk)⟩) (Nat.le_trans HG.1.2.1 (by decide))).mono ?_); rintro e w5 ⟨vo, rfl, ho, hb⟩; obtain ⟨go, co, rfl, hgo, hgl, _⟩ := Kd.N_form ho (Nat.lt_of_le_of_lt (Nat.zero_le _) HI.1); have HOT := zM (Kd.N_lower ho HBR.out.size); have HGO := zM (show wr.heap.size ≤ go ∧ go < w5.heap.size from ⟨Nat.le_trans HBR.out.size hgo, hgl⟩); have n0_ := zM (below_step HBR.out hb); have n1_ := zM (blk_below BKH.out hb); have n2_ := zM (Kd.R_below HNX.out hb); clear HBR BKH HNX hch0 hch1 hch2 ho hb hgo hgl; have HBR := n0_; have BKH := n1_; have HNX := n2_; clear n0_ n1_ n2_; have hch0 : w5.cell? ⟨gh, 0, none⟩ = some (.slice ua (rd_T29 l1 (i : Int)).f0.length uc) := (blk_cell BKH.out 0).trans rfl; have hch1 : w5.cell? ⟨gh, 1, none⟩ = some (.int .i64 (rd_T29 l1 (i : Int)).f1) := (blk_cell BKH.out 1).trans rfl; have hch2 : w5.cell? ⟨gh, 2, none⟩ = some (.int .i64 (rd_T29 l1 (i : Int)).f2) := (blk_cell BKH.out 2).trans rfl)
   | (go_at_call 65; (refine (impl_step.calls gk (fun k => some k = (Value.slice An l0.length cx).ownBlock) (Value.slice An l0.length cx) l0 ua uc (rd_T29 l1 (i : Int)).f0 (rd_T29 l1 (i : Int)).f1 (rd_T29 l1 (i : Int)).f2 t1 t2 t3 t4 w0 _ (HF.out.below HBR.out).bl (Kd.R_lower (Kd.R_tight rfl HNX.out) HF.out.bl.size) (fun W hk => HUF.out W (fun k hk2 hlt => (hk.2 k (Nat.lt_of_lt_of_le hlt HBR.out.size) (fun e_ => Nat.lt_irrefl _ (Nat.lt_of_lt_of_le hlt (Kd.R_base HNX.out k e_.symm)))).trans (HBR.out.block k hlt))) HUL.out AS.out).mono ?_); rintro e w6 ⟨vr, rfl, hor, hon, hb, hkp⟩; obtain ⟨Ar, cr, er⟩ := Kd.R_slice hor; subst er; have HRG := zM (show Kd.R (Kd.int .i64) 3 w6 w0.heap.size (fun k => w5.heap.size ≤ k) (.slice Ar t1.length cr) t1 from Kd.R_mono hor (fun k hk => hk.1.elim (fun h1_ => absurd h1_ hk.2) id)); have n0_ := zM (below_of_kept HF.out.bl hb ((Kept.of_below HBR.out (fun k => some k = (Value.slice An l0.length cx).ownBlock)).then_ hkp (fun _ h_ => .inl h_)) (fun k e_ => Kd.R_base HNX.out k e_.symm)); have n1_ := zM (show Kd.N k29 29 w6 wr.heap.size (fun k => ¬ Wr g gb v1 k ∧ some k ≠ (Value.slice An l0.length cx).ownBlock) (.slice (some ⟨go, 0, none⟩) l1.length co) l1 from Kd.N_kept HOT.out hkp (fun k hk h_ => hk.2 h_)); have n2_ := zM (show ∀ k, some k = (Value.slice An l0.length cx).ownBlock → wr.heap.size ≤ k ∧ k < w5.heap.size from fun k e_ => ⟨Kd.R_base HNX.out k e_.symm, Kd.R_lt HNX.out k e_.symm⟩); have HL4 := zM (Kd.R_reads' hon).1; have n3_ := zM (Kd.R_tight rfl hon); have n4_ := zM (show wr.heap.size ≤ w5.heap.size from HBR.out.size); clear HBR BKH HNX HOT hch0 hch1 hch2 hor hon hb hkp; have HBR := n0_; have HOT := n1_; have HNB := n2_; have HNX := n3_; have HW5 := n4_; clear n0_ n1_ n2_ n3_ n4_; obtain ⟨ce, hcl, hM, hcc, hfr⟩ := Kd.N_elem HOT.out z29 (i : Int) (Int.natCast_nonneg _) (Int.ofNat_lt.2 HI.1); obtain ⟨ua9, uc9, rfl, _, _⟩ := k29_openF hM; clear hM; have HCC := zM hcc; have HCL := zM hcl; have hy0 : w6.cell? ⟨go, i * 3, none⟩ = some (.slice ua9 _ uc9) := hcc 0 _ rfl; have hy1 : w6.cell? ⟨go, i * 3 + 1, none⟩ = some (.int .i64 _) := hcc 1 _ rfl; have hy2 : w6.cell? ⟨go, i * 3 + 2, none⟩ = some (.int .i64 _) := hcc 2 _ rfl; have hg0 : w6.frozen? ⟨go, i * 3, none⟩ = false := hfr 0; have hg1 : w6.frozen? ⟨go, i * 3 + 1, none⟩ = false := hfr 1; have hg2 : w6.frozen? ⟨go, i * 3 + 2, none⟩ = false := hfr 2; clear hcc hfr hcl)
   | ((with_reducible refine gate_store (t := 29) (p := 63) rfl ?_); refine store_event (t := 29) (p := 63) (v := ?vp_) (w1 := (((w6.setCell ⟨go, i * 3, none⟩ (.slice Ar t1.length cr)).setCell ⟨go, i * 3 + 1, none⟩ (.int .i64 t2)).setCell ⟨go, i * 3 + 2, none⟩ (.int .i64 t3))) ?hg ?ho ?hn ?hr ?_; (case ho => rfl); (case hg => rfl); (case hn => rfl); (case hr => exact zHH); intro w7 hw; have HP := Kd.N_seg HOT.out (i : Int) (Int.natCast_nonneg _) (Int.ofNat_lt.2 HI.1) (seg := [.slice Ar t1.length cr, .int .i64 t2, .int .i64 t3]) (j := 0) HCL.out HCC.out (show 3 ≤ 3 from by decide) (x' := (⟨t1, t2, t3⟩ : S29)) (okp := fun k => w5.heap.size ≤ k) (k29_mkF w6 _ (⟨t1, t2, t3⟩ : S29) (Kd.R_reads' HRG.out).2.1 (Kd.R_F HRG.out)) (fun k hk => ⟨⟨fun hw_ => Nat.lt_irrefl _ (Nat.lt_of_lt_of_le (HF.out.fd.wlt k hw_) (Nat.le_trans HW5.1 hk)), fun e_ => Nat.lt_irrefl _ (Nat.lt_of_lt_of_le (HNB.out k e_).2 hk)⟩, fun e_ => Nat.lt_irrefl _ (Nat.lt_of_lt_of_le HGO.out.2 (e_ ▸ hk))⟩); have hg : w6.grownBy w7 (some go) := (by rw [hw]; exact HP.2); have n0_ := zM (show Kd.N k29 29 w7 wr.heap.size (fun k => ¬ Wr g gb v1 k ∧ some k ≠ (Value.slice An l0.length cx).ownBlock) (.slice (some ⟨go, 0, none⟩) l1.length co) (l1.set i (⟨t1, t2, t3⟩ : S29)) from (by rw [hw]; exact HP.1)); have n1_ := zM (Kd.R_grown HNX.out hg (fun k hk e_ => (HOT.out.1 k e_.symm).2 hk)); have n2_ := zM (HBR.out.grown hg HBR.out.size (fun k e_ => by cases e_; exact HGO.out.1)); clear HP hw hg HOT HNX HBR HRG HCC HCL hy0 hy1 hy2 hg0 hg1 hg2; have HOT := n0_; have HNX := n1_; have HBR := n2_; clear n0_ n1_ n2_)
   | (go_at_call 59; (refine calls_of_args (args' := #[.pointer (some ⟨g, 0, none⟩), .slice An t4.length cx, .slice (some ⟨go, 0, none⟩) (l1.set i (⟨t1, t2, t3⟩ : S29)).length co, .int .i64 (wrap64 (n - 1))]) (by rw [HL4.1, List.length_set]) ((IH.out gk (by have := HK2.1; omega) An cx t4 (some ⟨go, 0, none⟩) co (l1.set i (⟨t1, t2, t3⟩ : S29)) (wrap64 (n - 1)) been1 been2 ends1 ends2 g gb v1 w0 _ (HF.out.below HBR.out).bl (HF.out.below HBR.out).fd (Kd.F_mono (Kd.R_F (HL4.1 ▸ HNX.out)) (fun k hk hw_ => Nat.lt_irrefl _ (Nat.lt_of_lt_of_le (HF.out.fd.wlt k hw_) (HNB.out k (HL4.1 ▸ hk)).1))) (by have h_ := (Kd.R_reads' HNX.out).2.1; rw [← HL4.1]; exact h_) (by rw [List.length_set]; exact Kd.F_mono (Kd.N_F HOT.out) (fun k hk => hk.1)) (by rw [List.length_set]; exact (Kd.N_reads' HOT.out).2.1) AF.out).mono ?_)); rintro e w8 ⟨v2, rfl, hf, hat, hkp, hb⟩; have n0_ := zM ((HF.out.below HBR.out).after hf hat hkp hb); clear HF HBR HOT HNX HNB hf hat hkp hb; have HF := n0_; clear n0_))
  go_roundg gk
  case measure => have := HK2.1; omega
  case rel => exact ⟨been2, ends2, v2, true, i + 1, rfl, congrArg (Value.int .i64) (by have h1_ := HI.1; have h2_ := HG.1.2.1; show wrap64 ((i : Int) + 1) = ((i + 1 : Nat) : Int); unfold wrap64; omega), ⟨HN.out⟩, ⟨by have := HK2.1; omega⟩, ⟨HF.out⟩⟩
theorem Fd.made {w w3 w4 : World} {g : Nat} (hB : Below w.heap.size w w3) (hg : g = (w3.alloc (.map #[] 0)).heap.size) (hbox : w4.heap[g]? = some (.cells #[.map (some w3.heap.size), .slice none 0 0] 76 (0, 0))) (hb : Below (w3.alloc (.map #[] 0)).heap.size (w3.alloc (.map #[] 0)) w4) :
  Fd w w4 g w3.heap.size (.slice none 0 0) [] [] := by
 have hm := World.ownsMap_made (H := Unit) w3 Try.prog 9 (plainElem (H := Unit) Try.prog 3)
 exact ⟨hbox, ownsMap_eq hm (hb.block _ hm.lt), Kd.S_nil _ _ _ _ _, by rw [hg]; exact (below_alloc hB _).size, hB.size⟩
def impl_Ends2.f (k : Nat) (l0 : List Int) (l1 : List S29) (a2 : Int) : Option (List (List Int)) :=
 (impl_memOk.f k l0).bind fun m => if m = true then (if (l1.length : Int) > 3 then some [] else (impl_from.f a2 0 12).bind fun t => if t = true then (slices_ContainsFunc_at_impl_Ends2_1.f k l1 0).bind fun c => (if c = true then some [] else (impl_find.f k [] [] l0 l1 a2).bind fun q => some q.2) else some []) else some []
theorem impl_find.mono_l : ∀ k, (∀ y0 y1 y2 y3 y4, LeO (impl_find.f k y0 y1 y2 y3 y4) (impl_find.f (k + 1) y0 y1 y2 y3 y4)) ∧ (∀ y0 y1 y2 y3 y4 y5 y6, LeO (impl_find.l0 k y0 y1 y2 y3 y4 y5 y6) (impl_find.l0 (k + 1) y0 y1 y2 y3 y4 y5 y6))
 | 0 => ⟨fun _ _ _ _ _ r h => by simp [impl_find.f] at h, fun _ _ _ _ _ _ _ r h => by simp [impl_find.l0] at h⟩
 | k + 1 => by
  obtain ⟨ih0, ih1⟩ := impl_find.mono_l k
  refine ⟨?_, ?_⟩
  ·intros
   unfold impl_find.f
   have mo0 := @impl_SaveBytes.mono
   exact zL
  ·intros
   unfold impl_find.l0
   repeat' first
    | (with_reducible exact ih0 _ _ _ _ _)
    | (with_reducible exact ih1 _ _ _ _ _ _ _)
    | (with_reducible exact impl_step.mono _ _ _ _ _)
    | (with_reducible exact findR_mono (fun _ => slices_Equal_int_int.mono _ _ _) _ _)
    | (with_reducible exact LeO.refl _)
    | (with_reducible refine LeO.ite ?_ ?_)
    | (with_reducible refine LeO.bind ?_ (fun _ => ?_))
theorem impl_Ends2.mono : ∀ a0 a1 a2 k, LeO (impl_Ends2.f k a0 a1 a2) (impl_Ends2.f (k + 1) a0 a1 a2) := fun a0 a1 a2 k => by
 unfold impl_Ends2.f
 repeat' first
  | (with_reducible exact impl_memOk.mono _ _)
  | (with_reducible exact slices_ContainsFunc_at_impl_Ends2_1.mono _ _ _)
  | (with_reducible exact (impl_find.mono_l _).1 _ _ _ _ _)
  | (with_reducible exact LeO.refl _)
  | (with_reducible refine LeO.ite ?_ ?_)
  | (with_reducible refine LeO.bind ?_ (fun _ => ?_))
theorem impl_Ends2.calls (k : Nat) (A0 : Option Addr) (c0 : Nat) (l0 : List Int) (A1 : Option Addr) (c1 : Nat) (l1 : List (S29)) (a2 : Int) (r : List (List Int)) (w : World) (hr0 : Kd.C (Kd.int .i64) w A0 l0.length l0) (hc0 : l0.length ≤ c0) (hr1 : Kd.C k29 w A1 l1.length l1) (hc1 : l1.length ≤ c1) (h : impl_Ends2.f k l0 l1 a2 = some r) :
  Calls Try.prog 24 #[.slice A0 l0.length c0, .slice A1 l1.length c1, .int .i64 a2] w fun e w' => ∃ v0_ : Value, e = .returned (v0_) ∧ Kd.S (Kd.slice 3 (Kd.int .i64)) 24 w' w.heap.size (fun _ => True) v0_ r ∧ Below w.heap.size w w' := by
 have HR0 := zM hr0
 have HR1 := zM hr1
 have HC0 := zM hc0
 have HC1 := zM hc1
 have HB := zM (Below.refl w.heap.size w)
 unfold impl_Ends2.f at h
 obtain ⟨m, hm, h⟩ := Option.bind_eq_some_iff.mp h
 have AM := zM hm
 clear hr0 hr1 hc0 hc1 hm
 cases m with
 | false =>
  obtain rfl := Option.some.inj h
  clear h
  go_enter Try.func24, Try.ntmps24
  go_wp2_with (first
   | (go_at_call 42; (refine (impl_memOk.calls k A0 c0 l0 false _ HR0.1 HC0.1 AM.out).mono ?_); rintro e w1 ⟨rfl, hd⟩; have n0_ := zM (below_step HB.1 hd.below); clear HB hd; have HB := n0_; clear n0_))
  go_ret
  first | exact ⟨_, rfl, Kd.S_nil _ _ _ _ _, HB.1⟩ | exact ⟨rfl, Kd.S_nil _ _ _ _ _, HB.1⟩
 | true =>
 rw [if_pos rfl] at h
 by_cases c3 : (l1.length : Int) > 3
 ·rw [if_pos c3] at h
  obtain rfl := Option.some.inj h
  clear h
  have d3 : decide ((l1.length : Int) > 3) = true := decide_eq_true c3
  go_enter Try.func24, Try.ntmps24
  go_wp2_with (first
   | (go_at_call 42; (refine (impl_memOk.calls k A0 c0 l0 true _ HR0.1 HC0.1 AM.out).mono ?_); rintro e w1 ⟨rfl, hd⟩; have n0_ := zM (below_step HB.1 hd.below); clear HB hd; have HB := n0_; clear n0_))
  go_ret
  first | exact ⟨_, rfl, Kd.S_nil _ _ _ _ _, HB.1⟩ | exact ⟨rfl, Kd.S_nil _ _ _ _ _, HB.1⟩
 rw [if_neg c3] at h
 have d3 : decide ((l1.length : Int) > 3) = false := decide_eq_false c3
 obtain ⟨t, ht, h⟩ := Option.bind_eq_some_iff.mp h
 have AT := zM ht
 clear ht
 cases t with
 | false =>
  obtain rfl := Option.some.inj h
  clear h
  go_enter Try.func24, Try.ntmps24
  go_wp2_with (first
   | (go_at_call 42; (refine (impl_memOk.calls k A0 c0 l0 true _ HR0.1 HC0.1 AM.out).mono ?_); rintro e w1 ⟨rfl, hd⟩; have n0_ := zM (below_step HB.1 hd.below); clear HB hd; have HB := n0_; clear n0_)
   | (go_at_call 43; (refine (impl_from.calls a2 0 12 false _ AT.out).mono ?_); rintro e w2 ⟨rfl, hd⟩; have n0_ := zM (below_step HB.1 hd.below); clear HB hd; have HB := n0_; clear n0_))
  go_ret
  first | exact ⟨_, rfl, Kd.S_nil _ _ _ _ _, HB.1⟩ | exact ⟨rfl, Kd.S_nil _ _ _ _ _, HB.1⟩
 | true =>
 rw [if_pos rfl] at h
 obtain ⟨c, hc, h⟩ := Option.bind_eq_some_iff.mp h
 have AC := zM hc
 clear hc
 cases c with
 | true =>
  obtain rfl := Option.some.inj h
  clear h
  go_enter Try.func24, Try.ntmps24
  go_wp2_with (first
   | (go_at_call 42; (refine (impl_memOk.calls k A0 c0 l0 true _ HR0.1 HC0.1 AM.out).mono ?_); rintro e w1 ⟨rfl, hd⟩; have n0_ := zM (below_step HB.1 hd.below); clear HB hd; have HB := n0_; clear n0_)
   | (go_at_call 43; (refine (impl_from.calls a2 0 12 true _ AT.out).mono ?_); rintro e w2 ⟨rfl, hd⟩; have n0_ := zM (below_step HB.1 hd.below); clear HB hd; have HB := n0_; clear n0_)
   | (go_at_call 56; (refine (slices_ContainsFunc_at_impl_Ends2_1.calls k A1 c1 l1 0 true _ (Kd.C_below HR1.1 HB.1) HC1.1 AC.out).mono ?_); rintro e w3 ⟨rfl, hb⟩; have n0_ := zM (below_step HB.1 hb); clear HB hb; have HB := n0_; clear n0_))
  go_ret
  first | exact ⟨_, rfl, Kd.S_nil _ _ _ _ _, HB.1⟩ | exact ⟨rfl, Kd.S_nil _ _ _ _ _, HB.1⟩
 | false =>
  rw [if_neg (by decide)] at h
  obtain ⟨⟨q1, q2⟩, hq, h⟩ := Option.bind_eq_some_iff.mp h
  obtain rfl := Option.some.inj h
  have AQ := zM hq
  clear hq h
  have hmm := @run_makeMap Try.prog
  go_enter Try.func24, Try.ntmps24
  go_wp2_with (first
   | (go_at_call 42; (refine (impl_memOk.calls k A0 c0 l0 true _ HR0.1 HC0.1 AM.out).mono ?_); rintro e w1 ⟨rfl, hd⟩; have n0_ := zM (below_step HB.1 hd.below); clear HB hd; have HB := n0_; clear n0_)
   | (go_at_call 43; (refine (impl_from.calls a2 0 12 true _ AT.out).mono ?_); rintro e w2 ⟨rfl, hd⟩; have n0_ := zM (below_step HB.1 hd.below); clear HB hd; have HB := n0_; clear n0_)
   | (go_at_call 56; (refine (slices_ContainsFunc_at_impl_Ends2_1.calls k A1 c1 l1 0 false _ (Kd.C_below HR1.1 HB.1) HC1.1 AC.out).mono ?_); rintro e w3 ⟨rfl, hb⟩; have n0_ := zM (below_step HB.1 hb); clear HB hb; have HB := n0_; clear n0_)
   | ((with_reducible refine zBx 27 76 #[.map (some w3.heap.size), .slice none 0 0] ?_); intro g hg w4 hbox hb; have n1_ := zM (Fd.made HB.1 hg hbox hb); have n0_ := zM (below_step (below_alloc HB.1 _) hb); have n2_ := zM (show w.heap.size ≤ g from by rw [hg]; exact (below_alloc HB.1 _).size); clear HB hg hbox hb; have HF := n1_; have HB := n0_; have HG := n2_; clear n0_ n1_ n2_)
   | (go_at_call 59; (refine (impl_find.calls k A0 c0 l0 A1 c1 l1 a2 [] q1 [] q2 g w3.heap.size (.slice none 0 0) w _ HB.1 HF.out (Kd.F_mono (Kd.F_below (Kd.C_F (Kd.heap_int .i64) HR0.1) HB.1) (fun k hk hw => Nat.lt_irrefl _ (Nat.lt_of_lt_of_le hk (HF.out.wlo k hw)))) HC0.1 (Kd.F_mono (Kd.F_below (Kd.C_F heap_kH HR1.1) HB.1) (fun k hk hw => Nat.lt_irrefl _ (Nat.lt_of_lt_of_le hk (HF.out.wlo k hw)))) HC1.1 AQ.out).mono ?_); rintro e w5 ⟨v2, rfl, hf, hat, hkp, hb⟩; obtain ⟨Av, cv, ev⟩ := Kd.S_slice hf.so; subst ev; have n0_ := zM hf; have n1_ := zM hb; clear HF HB hf hat hkp hb; have HF := n0_; have HB := n1_; clear n0_ n1_; have hcg : w5.cell? ⟨g, 1, none⟩ = some (.slice Av q2.length cv) := (blk_cell HF.out.bk 1).trans rfl))
  go_ret
  first | exact ⟨_, rfl, Kd.S_mono HF.out.so (fun _ _ => trivial), HB.1⟩ | exact ⟨rfl, Kd.S_mono HF.out.so (fun _ _ => trivial), HB.1⟩

/-- A state of type 102 at block g of W; what its slices lead to came in by w0. -/
def IsS102 (w0 W : World) (g : Nat) (f0 : List Int) (f1 : Int) (f2 : Int) : Prop := ∃ A0 c0, W.heap[g]? = some (.cells #[.slice A0 f0.length c0, .int .i64 f1, .int .i64 f2] 102 (0, 0)) ∧ w0.heap.size ≤ g ∧ Kd.C (Kd.int .u8) w0 A0 f0.length f0
theorem IsS102.grown {w0 W : World} {g : Nat} {f0 : List Int} {f1 : Int} {f2 : Int} {W1 : World} {row : Option Nat} (h : IsS102 w0 W g f0 f1 f2) (hw : W.grownBy W1 row) (hne : some g ≠ row) : IsS102 w0 W1 g f0 f1 f2 := by
 obtain ⟨A0, c0, hb, hg, hr0⟩ := h
 exact ⟨A0, c0, blk_grown hb hw hne, hg, hr0⟩
theorem IsS102.own_neN {w0 W : World} {g : Nat} {f0 : List Int} {f1 : Int} {f2 : Int} {α : Type} {d : Kd α} {e : Nat} {base : Nat} {ok : Nat → Prop} {v : Value} {xs : List α} (h : IsS102 w0 W g f0 f1 f2) (ho : Kd.N d e W base ok v xs) (ht : e ≠ 102) : some g ≠ v.ownBlock := by
 obtain ⟨A0, c0, hb, hg, hr0⟩ := h
 exact Kd.N_ne ho hb ht
theorem IsS102.fresh {w0 W : World} {g : Nat} {f0 : List Int} {f1 : Int} {f2 : Int} (h : IsS102 w0 W g f0 f1 f2) : ∀ k, W.heap.size ≤ k → k ≠ g := by
 obtain ⟨A0, c0, hb, hg, hr0⟩ := h
 exact Kd.freshB hb
theorem IsS102.kept {w0 W : World} {g : Nat} {f0 : List Int} {f1 : Int} {f2 : Int} {W1 : World} {S : Nat → Prop} (h : IsS102 w0 W g f0 f1 f2) (hk : Kept W W1 S) (hne : ¬ S g) : IsS102 w0 W1 g f0 f1 f2 := by
 obtain ⟨A0, c0, hb, hg, hr0⟩ := h
 exact ⟨A0, c0, blk_kept hb hk hne, hg, hr0⟩
theorem IsS102.below {w0 W : World} {g : Nat} {f0 : List Int} {f1 : Int} {f2 : Int} {W1 : World} (h : IsS102 w0 W g f0 f1 f2) (hw : Below W.heap.size W W1) : IsS102 w0 W1 g f0 f1 f2 := h.grown (grown_of_below hw none) (by simp)
theorem IsS102.alloc {w0 W : World} {g : Nat} {f0 : List Int} {f1 : Int} {f2 : Int} (h : IsS102 w0 W g f0 f1 f2) (o : Obj) : IsS102 w0 (W.alloc o) g f0 f1 f2 := h.below (below_alloc (Below.refl _ _) o)
theorem IsS102.drewN {w0 W : World} {g : Nat} {f0 : List Int} {f1 : Int} {f2 : Int} (h : IsS102 w0 W g f0 f1 f2) (m : Nat) : IsS102 w0 (W.drewN m) g f0 f1 f2 := h
theorem IsS102.drew {w0 W : World} {g : Nat} {f0 : List Int} {f1 : Int} {f2 : Int} (h : IsS102 w0 W g f0 f1 f2) : IsS102 w0 W.drew g f0 f1 f2 := h
theorem IsS102.at_ {w0 W : World} {g : Nat} {f0 : List Int} {f1 : Int} {f2 : Int} {w' : World} {m : Nat} (hq : W.drewN m = w') (h : IsS102 w0 W g f0 f1 f2) : IsS102 w0 w' g f0 f1 f2 := by subst hq; exact IsS102.drewN h m
theorem IsS102.apart {w0 W : World} {g : Nat} {f0 : List Int} {f1 : Int} {f2 : Int} {α : Type} {d : Kd α} {e : Nat} {base : Nat} {ok : Nat → Prop} {v : Value} {xs : List α} (h : IsS102 w0 W g f0 f1 f2) (ho : d.R e W base ok v xs) (ht : ∀ q, q ∈ e :: d.E → q ≠ 102) : d.R e W base (fun k => ok k ∧ k ≠ g) v xs := by
 obtain ⟨A0, c0, hb, hg, hr0⟩ := h
 exact Kd.R_types ho hb ht
theorem IsS102.own_ne {w0 W : World} {g : Nat} {f0 : List Int} {f1 : Int} {f2 : Int} {α : Type} {d : Kd α} {e : Nat} {base : Nat} {ok : Nat → Prop} {v : Value} {xs : List α} (h : IsS102 w0 W g f0 f1 f2) (ho : d.R e W base ok v xs) (ht : e ≠ 102) : some g ≠ v.ownBlock := by
 obtain ⟨A0, c0, hb, hg, hr0⟩ := h
 exact Kd.R_ne ho hb ht
theorem IsS102.apartQ {w0 W : World} {g : Nat} {f0 : List Int} {f1 : Int} {f2 : Int} {α : Type} {d : Kd α} {e : Nat} {base : Nat} {ok : Nat → Prop} {v : Value} {xs : List α} (h : IsS102 w0 W g f0 f1 f2) (ho : d.Q e W base ok v xs) (ht : ∀ q, q ∈ e :: d.E → q ≠ 102) : d.Q e W base (fun k => ok k ∧ k ≠ g) v xs := by
 obtain ⟨A0, c0, hb, hg, hr0⟩ := h
 exact Kd.Q_types ho hb ht
theorem IsS102.own_neQ {w0 W : World} {g : Nat} {f0 : List Int} {f1 : Int} {f2 : Int} {α : Type} {d : Kd α} {e : Nat} {base : Nat} {ok : Nat → Prop} {v : Value} {xs : List α} (h : IsS102 w0 W g f0 f1 f2) (ho : d.Q e W base ok v xs) (ht : e ≠ 102) : some g ≠ v.ownBlock := by
 obtain ⟨A0, c0, hb, hg, hr0⟩ := h
 exact Kd.Q_ne ho hb ht
theorem IsS102.apartS {w0 W : World} {g : Nat} {f0 : List Int} {f1 : Int} {f2 : Int} {α : Type} {d : Kd α} {e : Nat} {base : Nat} {ok : Nat → Prop} {v : Value} {xs : List α} (h : IsS102 w0 W g f0 f1 f2) (ho : d.S e W base ok v xs) (ht : ∀ q, q ∈ e :: d.E → q ≠ 102) : d.S e W base (fun k => ok k ∧ k ≠ g) v xs := by
 obtain ⟨A0, c0, hb, hg, hr0⟩ := h
 exact Kd.S_types ho hb ht
theorem IsS102.own_neS {w0 W : World} {g : Nat} {f0 : List Int} {f1 : Int} {f2 : Int} {α : Type} {d : Kd α} {e : Nat} {base : Nat} {ok : Nat → Prop} {v : Value} {xs : List α} (h : IsS102 w0 W g f0 f1 f2) (ho : d.S e W base ok v xs) (ht : e ≠ 102) : some g ≠ v.ownBlock := by
 obtain ⟨A0, c0, hb, hg, hr0⟩ := h
 exact Kd.S_ne ho hb ht
theorem IsS102.lt {w0 W : World} {g : Nat} {f0 : List Int} {f1 : Int} {f2 : Int} (h : IsS102 w0 W g f0 f1 f2) : g < W.heap.size := by
 obtain ⟨A0, c0, hb, hg, hr0⟩ := h
 exact blk_lt hb
theorem IsS102.ge {w0 W : World} {g : Nat} {f0 : List Int} {f1 : Int} {f2 : Int} (h : IsS102 w0 W g f0 f1 f2) : w0.heap.size ≤ g := by
 obtain ⟨A0, c0, hb, hg, hr0⟩ := h
 exact hg
theorem IsS102.ne_blk {w0 W : World} {g : Nat} {f0 : List Int} {f1 : Int} {f2 : Int} {a : Nat} {cs : Array Value} {t : TypeId} {fr : Nat × Nat} (h : IsS102 w0 W g f0 f1 f2) (hb2 : W.heap[a]? = some (.cells cs t fr)) (ht : t ≠ 102) : g ≠ a := by
 obtain ⟨A0, c0, hb, hg, hr0⟩ := h
 rintro rfl
 rw [hb] at hb2
 injection hb2 with hb2
 injection hb2 with _ ht2
 exact ht ht2.symm
theorem IsS102.far {w0 W : World} {g : Nat} {f0 : List Int} {f1 : Int} {f2 : Int} {p : Addr} (h : IsS102 w0 W g f0 f1 f2) (hne : g ≠ p.block) (u : Value) : IsS102 w0 (W.setCell p u) g f0 f1 f2 := by
 obtain ⟨A0, c0, hb, hg, hr0⟩ := h
 exact ⟨A0, c0, blk_far hb hne u, hg, hr0⟩
theorem cellS102_0 {W : World} {g : Nat} {A0 : Option Addr} {c0 : Nat} {f0 : List Int} {f1 : Int} {f2 : Int} (h : W.heap[g]? = some (.cells #[.slice A0 f0.length c0, .int .i64 f1, .int .i64 f2] 102 (0, 0))) : W.cell? ⟨g, 0, none⟩ = some (.slice A0 f0.length c0) := (blk_cell h 0).trans rfl
theorem cellS102_1 {W : World} {g : Nat} {A0 : Option Addr} {c0 : Nat} {f0 : List Int} {f1 : Int} {f2 : Int} (h : W.heap[g]? = some (.cells #[.slice A0 f0.length c0, .int .i64 f1, .int .i64 f2] 102 (0, 0))) : W.cell? ⟨g, 1, none⟩ = some (.int .i64 f1) := (blk_cell h 1).trans rfl
theorem IsS102.set_1 {w0 W : World} {g : Nat} {f0 : List Int} {f1 : Int} {f2 : Int} (h : IsS102 w0 W g f0 f1 f2) (x : Int) : IsS102 w0 (W.setCell ⟨g, 1, none⟩ (.int .i64 x)) g f0 x f2 := by
 obtain ⟨A0, c0, hb, hg, hr0⟩ := h
 exact ⟨A0, c0, by simpa using blk_set hb 1 (.int .i64 x), hg, hr0⟩
theorem cellS102_2 {W : World} {g : Nat} {A0 : Option Addr} {c0 : Nat} {f0 : List Int} {f1 : Int} {f2 : Int} (h : W.heap[g]? = some (.cells #[.slice A0 f0.length c0, .int .i64 f1, .int .i64 f2] 102 (0, 0))) : W.cell? ⟨g, 2, none⟩ = some (.int .i64 f2) := (blk_cell h 2).trans rfl
theorem IsS102.set_2 {w0 W : World} {g : Nat} {f0 : List Int} {f1 : Int} {f2 : Int} (h : IsS102 w0 W g f0 f1 f2) (x : Int) : IsS102 w0 (W.setCell ⟨g, 2, none⟩ (.int .i64 x)) g f0 f1 x := by
 obtain ⟨A0, c0, hb, hg, hr0⟩ := h
 exact ⟨A0, c0, by simpa using blk_set hb 2 (.int .i64 x), hg, hr0⟩
theorem IsS102.new (w0 W : World) (A0 : Option Addr) (c0 : Nat) (f0 : List Int) (f1 : Int) (f2 : Int) (hB : Below w0.heap.size w0 W) (hr0 : Kd.C (Kd.int .u8) w0 A0 f0.length f0) : IsS102 w0 (W.alloc (.cells #[.slice A0 f0.length c0, .int .i64 f1, .int .i64 f2] 102)) W.heap.size f0 f1 f2 := ⟨A0, c0, by simpa using heap_alloc_new W _, hB.size, hr0⟩

/-! ### spec_l1Byte: function 90 -/
def spec_l1Byte.f (s0_0 : List Int) (s0_1 : Int) (s0_2 : Int) : Option (Int × Int × Int) := if s0_1 < (s0_0.length : Int) then (if 0 ≤ s0_1 then (some (Go.bits .and .i64 (wrap64 ((Go.bits .and .i64 (Go.bits .xor .i64 ((wrap64 ((wrap64 (s0_2 * 6364136223846793005)) + 1442695040888963407)) / 8589934592) ((wrap64 ((wrap64 (s0_2 * 6364136223846793005)) + 1442695040888963407)) / 35184372088832)) 255) + (wrap64 (rd s0_0 s0_1)))) 255, wrap64 (s0_1 + 1), wrap64 ((wrap64 (s0_2 * 6364136223846793005)) + 1442695040888963407))) else (none)) else (some (Go.bits .and .i64 (Go.bits .xor .i64 ((wrap64 ((wrap64 (s0_2 * 6364136223846793005)) + 1442695040888963407)) / 8589934592) ((wrap64 ((wrap64 (s0_2 * 6364136223846793005)) + 1442695040888963407)) / 35184372088832)) 255, s0_1, wrap64 ((wrap64 (s0_2 * 6364136223846793005)) + 1442695040888963407)))
theorem spec_l1Byte.calls (g : Nat) (s0_0 : List Int) (s0_1 : Int) (s0_2 : Int) (r1 : Int) (r2 : Int) (r3 : Int) (w0 w : World) (hI : IsS102 w0 w g s0_0 s0_1 s0_2) (hB : Below w0.heap.size w0 w) (h : spec_l1Byte.f s0_0 s0_1 s0_2 = some (r1, r2, r3)) :
  Calls Try.prog 90 #[.pointer (some ⟨g, 0, none⟩)] w fun e w' => e = .returned (.int .i64 r1) ∧ IsS102 w0 w' g s0_0 r2 r3 ∧ Below w0.heap.size w0 w' ∧ KeepBut w w' g none := by
 have HI0 := zM hI
 have HK := zM (KeepBut.refl w g none)
 have HL := zM hB.size
 clear hI
 have HW0 := zM hB.size
 have HB := zM hB
 clear hB
 unfold spec_l1Byte.f at h
 have H := h
 clear h
 by_cases c2 : s0_1 < (s0_0.length : Int)
 rotate_left
 ·rw [if_neg c2] at H
  have c2b0 := decide_eq_false c2
  clear c2
  simp only [Option.some.injEq, Prod.mk.injEq] at H
  obtain ⟨rfl, rfl, rfl⟩ := H
  obtain ⟨ASz5_0, cSz5_0, HGz5, hgz5, HSz5_0⟩ := HI0.1
  have hcz5_0 := cellS102_0 HGz5
  have hcz5_1 := cellS102_1 HGz5
  have hcz5_2 := cellS102_2 HGz5
  have hfz5_1 := blk_frozen HGz5 1
  have hfz5_2 := blk_frozen HGz5 2
  clear HGz5 hgz5
  go_enter Try.func90, Try.ntmps90
  go_wp2
  repeat (go_quiet (fail); try go_wp2)
  go_ret
  exact ⟨zE, zB44, zB45, zB46⟩
 rw [if_pos c2] at H
 have c2b0 := decide_eq_true c2
 clear c2
 replace H := zIt H
 obtain ⟨c3b0, H⟩ := H
 simp only [Option.some.injEq, Prod.mk.injEq] at H
 obtain ⟨rfl, rfl, rfl⟩ := H
 obtain ⟨ASz4_0, cSz4_0, HGz4, hgz4, HSz4_0⟩ := HI0.1
 have hcz4_0 := cellS102_0 HGz4
 have hcz4_1 := cellS102_1 HGz4
 have hcz4_2 := cellS102_2 HGz4
 have hfz4_1 := blk_frozen HGz4 1
 have hfz4_2 := blk_frozen HGz4 2
 clear HGz4 hgz4
 obtain ⟨p372, q372, ad372, e372, hx372_0⟩ := zRd (Kd.at_int HSz4_0 s0_1)
 cases e372
 have hn372_0 : ad372.block ≠ g := Nat.ne_of_lt (Nat.lt_of_lt_of_le (by have := World.block_lt_of_cell? _ _ hx372_0; first | rwa [add_block] at this | exact this) (IsS102.ge HI0.1))
 replace hx372_0 := pw_cell_below HB.1 hx372_0
 replace hx372_0 := (cell_far (p := ⟨g, 2, none⟩) (by first | (rw [add_block]; exact hn372_0) | (show (Addr.add _ _).block ≠ _; rw [add_block]; exact hn372_0) | exact hn372_0) (.int .i64 (wrap64 ((wrap64 (s0_2 * 6364136223846793005)) + 1442695040888963407)))).trans hx372_0
 (try have hy372_0 := fun (n_ : Nat) => (show (((w.drewN n_).setCell ⟨g, 2, none⟩ (.int .i64 (wrap64 ((wrap64 (s0_2 * 6364136223846793005)) + 1442695040888963407))))).cell? _ = some _ from hx372_0))
 clear hn372_0
 go_enter Try.func90, Try.ntmps90
 go_wp2
 repeat (go_quiet (fail); try go_wp2)
 go_ret
 exact ⟨zE, zB44, zB45, zB46⟩

end Go.Proofs.Ytnjdepmlpdjghaa.PFnAllEnds
