-- made by wip/tools/myprint.py out of the seat's translation
import Derived.Test.YtpcgecacaemalaaPFnExactRunTox0
import Derived.Test.YtpcgecacaemalaaPFnExactRunTox4
import Derived.Test.YtpcgecacaemalaaPFnExactRunTox5
namespace Go.Proofs.Ytpcgecacaemalaa.PFnExactRunTo
open Go.RowKit Go.Proofs.YtpcgecacaemalaaW.PrintWords Go.Proofs.YtpcgecacaemalaaW.PrintLast Go.Proofs.YtpcgecacaemalaaW.PrintMore
attribute [local go_sem] max2_int min2_int max_two min_two max_three min_three max_four min_four   -- for this text's walks alone
set_option linter.unusedVariables false
set_option linter.unusedSimpArgs false
set_option maxHeartbeats 8000000
set_option maxRecDepth 100000
abbrev zq6_0 : Array Bool := #[false, false, false, false, false, false, false, false, false, false]
abbrev zq6_7 : Array Bool := #[true, true, true, true, true, true, true, true, true, false]
abbrev zq6_8 : Array Bool := #[true, true, true, true, true, true, true, false, false, false]
abbrev zq6_9 : Array Bool := #[true, true, true, true, true, true, false, false, true, false]
abbrev zq6_13 : Array Bool := #[false, false, false, false, false, false, false, false, false, false, false, false, false]
abbrev zq6_26 : Array Bool := #[true, true, true, true, true, true, true, true, true, true, true, true, true]

/-! ### impl_eventOf: function 65 -/
def impl_eventOf.f (k : Nat) (l0 : List Int) (l1_0 : List Int) (a1_1 : Int) (a1_2 : Int) (a2 : Int) : Option (Int × Int × Int × Int × Int) := if 0 ≤ a1_1 then (if a1_1 < (l0.length : Int) then ((impl_Decode.f (rd l0 a1_1)).bind fun bt194 => ((impl_Target.f bt194.1 bt194.2.1 bt194.2.2.1 bt194.2.2.2.1 bt194.2.2.2.2.1 l1_0).bind fun t201 => (if t201 < 0 then (some (a2, a1_1, t201, (-1), (-1))) else (if 0 ≤ t201 then (if t201 < (l0.length : Int) then ((impl_Work.f k l1_0 a1_1 a1_2 bt194.1 bt194.2.1 bt194.2.2.1 bt194.2.2.2.1 bt194.2.2.2.2.1 (rd l0 t201)).bind fun bt204 => (if bt194.1 = 5 then (some (a2, a1_1, t201, (-1), bt204.2.2.2)) else (some (a2, a1_1, t201, rd l0 t201, bt204.2.2.2)))) else (none)) else (none))))) else (none)) else (none)
theorem impl_eventOf.mono : ∀ a0 a1 a2 a3 a4 k, LeO (impl_eventOf.f k a0 a1 a2 a3 a4) (impl_eventOf.f (k + 1) a0 a1 a2 a3 a4) := by
 intro a0 a1 a2 a3 a4 k
 unfold impl_eventOf.f
 have mo0 := @impl_Work.mono
 exact zL
def impl_eventOf.T2 : Bool × List (List Nat × List Nat) := (true, [([], []), ([], []), ([1], [1]), ([], []), ([], []), ([4], [4]), ([3, 5], [3, 5]), ([0, 2, 6], [0, 2, 6]), ([], []), ([8, 7, 6, 0, 1, 2, 3, 4, 5, 6, 7, 8], [7, 8])])
def impl_eventOf.B2 : List Nat := [0, 0, 2, 0, 0, 16, 56, 127, 0, 511]
theorem impl_eventOf.tab2 : rtab .any (opsOf Try.f65 2) = impl_eventOf.T2 := by kernel_rfl
theorem impl_eventOf.bits2 : waitsOk impl_eventOf.T2.2 impl_eventOf.B2 = true := by kernel_rfl
def impl_eventOf.T5 : Bool × List (List Nat × List Nat) := (true, [([], []), ([], []), ([], []), ([], []), ([3], [3]), ([2, 4], [2, 4]), ([5], [5]), ([0, 1, 6], [0, 1, 6]), ([7], [7]), ([8], [8]), ([8], [8]), ([0, 1, 2, 3, 4, 5, 6, 7, 8, 9, 10], []), ([11, 10, 7, 0, 1, 2, 3, 4, 5, 6, 7, 8, 9, 10], [10, 11])])
def impl_eventOf.B5 : List Nat := [0, 0, 0, 0, 8, 28, 60, 127, 255, 511, 511, 2047, 4095]
theorem impl_eventOf.tab5 : rtab .any (opsOf Try.f65 5) = impl_eventOf.T5 := by kernel_rfl
theorem impl_eventOf.bits5 : waitsOk impl_eventOf.T5.2 impl_eventOf.B5 = true := by kernel_rfl
theorem impl_eventOf.calls (k : Nat) (A0 : Option Addr) (c0 : Nat) (l0 : List Int) (A1_0 : Option Addr) (c1_0 : Nat) (l1_0 : List Int) (a1_1 : Int) (a1_2 : Int) (a2 : Int) (r1 : Int) (r2 : Int) (r3 : Int) (r4 : Int) (r5 : Int) (w : World) (hr0 : Kd.C (Kd.int .i64) w A0 l0.length l0) (hc0 : l0.length ≤ c0) (hr1_0 : Kd.C (Kd.int .i64) w A1_0 l1_0.length l1_0) (hc1_0 : l1_0.length ≤ c1_0) (h : impl_eventOf.f k l0 l1_0 a1_1 a1_2 a2 = some (r1, r2, r3, r4, r5)) :
  Calls Try.prog 65 #[.slice A0 l0.length c0, .agg #[.slice A1_0 l1_0.length c1_0, .int .i64 a1_1, .int .i64 a1_2], .int .i64 a2] w fun e w' => e = .returned (.agg #[.int .i64 r1, .int .i64 r2, .int .i64 r3, .int .i64 r4, .int .i64 r5]) ∧ Below w.heap.size w w' := by
 have hu53 := Try.underlying53
 have hu57 := Try.underlying57
 have hu109 := Try.underlying109
 have HR0 := zM hr0
 have HC0 := zM hc0
 clear hr0 hc0
 have HR1_0 := zM hr1_0
 have HC1_0 := zM hc1_0
 clear hr1_0 hc1_0
 have HB := zM (Below.refl w.heap.size w)
 unfold impl_eventOf.f at h
 have H := h
 clear h
 replace H := zIt H
 obtain ⟨c4b0, H⟩ := H
 replace H := zIt H
 obtain ⟨c5b0, H⟩ := H
 replace H := zO H
 obtain ⟨⟨t194, t195, t196, t197, t198, t199⟩, A6, H⟩ := H
 try dsimp only at H
 replace H := zO H
 obtain ⟨t201, A7, H⟩ := H
 by_cases c8 : t201 < 0
 ·rw [if_pos c8] at H
  have c8b0 := decide_eq_true c8
  clear c8
  simp only [Option.some.injEq, Prod.mk.injEq] at H
  obtain ⟨rfl, rfl, rfl, rfl, rfl⟩ := H
  go_enter Try.func65, Try.ntmps65
  try go_wp2_with (first | ((with_reducible refine zBx 4 53 #[.slice A1_0 l1_0.length c1_0, .int .i64 a1_1, .int .i64 a1_2] ?_); intro gb191 hg w9 hbox hb; have BK191 := zM hbox; have GW191 := zM (zW hg (below_size zB1)); have GE191 := zM (zW hg (below_size zB1)); replace HB := zM (below_step zB1 hb); clear hb hbox hg) | ((with_reducible refine zBx 6 57 #[.int .i64 0, .int .i64 0, .int .i64 0, .int .i64 0, .int .i64 0] ?_); intro gb192 hg w10 hbox hb; have BK192 := zM hbox; have GW192 := zM (zW hg (below_size zB1)); have GE192 := zM (zW hg (below_size zB1)); replace HB := zM (below_step zB1 hb); have NB191_192 := zM ((zn BK191.1 hg : gb191 ≠ gb192)); have NB192_191 := zM ((zm BK191.1 hg : gb192 ≠ gb191)); replace BK191 := zM (zb BK191.1 hb); clear hb hbox hg; have hnb11 := NB191_192.1; have hnc11 := NB192_191.1; have hcz12 := zc_3 (w := w10) BK191.1; obtain ⟨p193, q193, ad193, e193, hx193_0⟩ := zRd (Kd.at_int HR0.1 a1_1); cases e193; replace hx193_0 := zHx HB.1 hx193_0) | ((with_reducible refine zG Try.func101 16 #[.int .i64 (rd l0 a1_1)] ?_); (with_reducible refine (impl_Decode.calls (rd l0 a1_1) t194 t195 t196 t197 t198 t199 _ A6.1).mono ?_); rintro e w13 ⟨rfl, hb⟩; refine ⟨_, rfl, ?_⟩; replace BK191 := zM (zb BK191.1 hb); replace BK192 := zM (zb BK192.1 hb); replace HB := zM (below_step zB1 hb); clear hb) | ((with_reducible refine zBx 7 109 #[.int .i64 0, .int .i64 0, .int .i64 0, .int .i64 0, .int .i64 0] ?_); intro gb200 hg w14 hbox hb; have BK200 := zM hbox; have GW200 := zM (zW hg (below_size zB1)); have GE200 := zM (zW hg (below_size zB1)); replace HB := zM (below_step zB1 hb); have NB191_200 := zM ((zn BK191.1 hg : gb191 ≠ gb200)); have NB200_191 := zM ((zm BK191.1 hg : gb200 ≠ gb191)); replace BK191 := zM (zb BK191.1 hb); have NB192_200 := zM ((zn BK192.1 hg : gb192 ≠ gb200)); have NB200_192 := zM ((zm BK192.1 hg : gb200 ≠ gb192)); replace BK192 := zM (zb BK192.1 hb); clear hb hbox hg; have hnb15 := NB200_191.1; have hnc15 := NB191_200.1; have hnb16 := NB200_192.1; have hnc16 := NB192_200.1; have hcz17 := zc_5 (w := w14) BK200.1))
  generalize hw_ : (((((w14.setCell ⟨gb200, 0, none⟩ (.int .i64 t194)).setCell ⟨gb200, 1, none⟩ (.int .i64 t195)).setCell ⟨gb200, 2, none⟩ (.int .i64 t196)).setCell ⟨gb200, 3, none⟩ (.int .i64 t197)).setCell ⟨gb200, 4, none⟩ (.int .i64 t198)) = w18
  have n0_ : Aside0 (w18.heap[gb191]? = some (.cells #[.slice A1_0 l1_0.length c1_0, .int .i64 a1_1, .int .i64 a1_2] 53 (0, 0))) := ⟨by rw [← hw_]; exact zPq⟩
  have n1_ : Aside0 (w18.heap[gb192]? = some (.cells #[.int .i64 0, .int .i64 0, .int .i64 0, .int .i64 0, .int .i64 0] 57 (0, 0))) := ⟨by rw [← hw_]; exact zPq⟩
  have n2_ : Aside0 (w18.heap[gb200]? = some (.cells #[.int .i64 t194, .int .i64 t195, .int .i64 t196, .int .i64 t197, .int .i64 t198] 109 (0, 0))) := ⟨by rw [← hw_]; exact zp5 (zK BK200.1)⟩
  have n3_ : Aside0 (Below w.heap.size w w18) := ⟨by rw [← hw_]; exact zB1⟩
  (try clear BK191)
  (try clear BK192)
  (try clear BK200)
  (try clear HB)
  clear hw_
  have BK191 := n0_
  have BK192 := n1_
  have BK200 := n2_
  have HB := n3_
  clear n0_ n1_ n2_ n3_
  replace BK191 := zM (blk_drew BK191.1)
  replace BK192 := zM (blk_drew BK192.1)
  replace BK200 := zM (blk_drew BK200.1)
  replace HB := zM (below_drew1 HB.1)
  refine start_ (n := 10) (S := fun w' => w'.cell? ⟨gb191, 0, none⟩ = some (.slice A1_0 l1_0.length c1_0) ∧ w'.cell? ⟨gb191, 1, none⟩ = some (.int .i64 a1_1) ∧ w'.cell? ⟨gb191, 2, none⟩ = some (.int .i64 a1_2) ∧ w'.cell? ⟨gb200, 0, none⟩ = some (.int .i64 t194) ∧ w'.cell? ⟨gb200, 1, none⟩ = some (.int .i64 t195) ∧ w'.cell? ⟨gb200, 2, none⟩ = some (.int .i64 t196) ∧ w'.cell? ⟨gb200, 3, none⟩ = some (.int .i64 t197) ∧ w'.cell? ⟨gb200, 4, none⟩ = some (.int .i64 t198)) (ds := []) zq6_0 (by kernel_rfl) rfl rfl ⟨(blk_cell BK191.1 0).trans rfl, (blk_cell BK191.1 1).trans rfl, (blk_cell BK191.1 2).trans rfl, (blk_cell BK200.1 0).trans rfl, (blk_cell BK200.1 1).trans rfl, (blk_cell BK200.1 2).trans rfl, (blk_cell BK200.1 3).trans rfl, (blk_cell BK200.1 4).trans rfl⟩ (fun hHeld => ?_); refine with_tabW impl_eventOf.tab2 impl_eventOf.bits2 (fun HT_ HW_ => ?_)
  generalize w18.drew = w19 at BK191 BK192 BK200 HB hHeld ⊢
  refine zPu 0 ?_
  refine zPu 1 ?_
  refine zPu 4 ?_
  refine zTk8 2 hHeld ?_
  refine zTk8 3 hHeld ?_
  refine zTk8 5 hHeld ?_
  refine join_ (σ := Nat) 1 zq6_7 (fun s_ => [(25, .int .i64 t201), (9, .pointer (some ⟨s_, 0, none⟩)), (26, .agg #[.int .i64 a2, .int .i64 a1_1, .int .i64 t201, .int .i64 (-1), .int .i64 (-1)])]) (fun s_ w' => (w'.cell? ⟨gb191, 0, none⟩ = some (.slice A1_0 l1_0.length c1_0) ∧ w'.cell? ⟨gb191, 1, none⟩ = some (.int .i64 a1_1) ∧ w'.cell? ⟨gb191, 2, none⟩ = some (.int .i64 a1_2) ∧ w'.cell? ⟨gb200, 0, none⟩ = some (.int .i64 t194) ∧ w'.cell? ⟨gb200, 1, none⟩ = some (.int .i64 t195) ∧ w'.cell? ⟨gb200, 2, none⟩ = some (.int .i64 t196) ∧ w'.cell? ⟨gb200, 3, none⟩ = some (.int .i64 t197) ∧ w'.cell? ⟨gb200, 4, none⟩ = some (.int .i64 t198)) ∧ (w'.heap[gb191]? = some (.cells #[.slice A1_0 l1_0.length c1_0, .int .i64 a1_1, .int .i64 a1_2] 53 (0, 0))) ∧ (w'.heap[gb192]? = some (.cells #[.int .i64 0, .int .i64 0, .int .i64 0, .int .i64 0, .int .i64 0] 57 (0, 0))) ∧ (w'.heap[gb200]? = some (.cells #[.int .i64 t194, .int .i64 t195, .int .i64 t196, .int .i64 t197, .int .i64 t198] 109 (0, 0))) ∧ (w'.heap[s_]? = some (.cells #[.int .i64 0, .int .i64 0, .int .i64 0, .int .i64 0, .int .i64 0] 57 (0, 0))) ∧ (w.heap.size ≤ s_) ∧ (w.heap.size ≤ s_) ∧ (gb191 ≠ s_) ∧ (s_ ≠ gb191) ∧ (gb192 ≠ s_) ∧ (s_ ≠ gb192) ∧ (gb200 ≠ s_) ∧ (s_ ≠ gb200) ∧ (Below w.heap.size w w')) ?_ ?_
  rotate_left
  ·intro hCont
   refine two_ (i := 6) (j := 8) (Ni := some 25) (Nj := some 9) zq6_8 zq6_9 rfl rfl rfl rfl (two_of HT_.1 (by kernel_rfl)) (by decide) (by decide) (fun K hK => ?_) (fun K hK => ?_)
   ·refine zGs Try.func102 #[.agg #[.int .i64 t194, .int .i64 t195, .int .i64 t196, .int .i64 t197, .int .i64 t198], .slice A1_0 l1_0.length c1_0] ?_
    with_reducible refine (impl_Target.calls t194 t195 t196 t197 t198 _ _ l1_0 t201 _ ?side1 ?side2 A7.1).mono ?_
    (case side1 => exact zC (Kd.C_below HR1_0.1 HB.1))
    (case side2 => exact HC1_0.1)
    rintro e w20 ⟨rfl, hb⟩
    refine ⟨_, rfl, ?_⟩
    replace BK191 := zM (zb BK191.1 hb)
    replace BK192 := zM (zb BK192.1 hb)
    replace BK200 := zM (zb BK200.1 hb)
    replace HB := zM (below_step zB1 hb)
    refine hK.out _ _ zCs fun hHeld => ?_
    clear hK K
    refine zNo ?_
    refine zPu 7 ?_
    refine zOn 8 (some 9) fun K hK => ?_
    refine zBs 9 57 #[.int .i64 0, .int .i64 0, .int .i64 0, .int .i64 0, .int .i64 0] ?_
    intro gb202 hg w21 hbox hb
    replace BK202 := zM hbox
    replace GW202 := zM (zW hg (below_size zB1))
    replace GE202 := zM (zW hg (below_size zB1))
    replace HB := zM (below_step zB1 hb)
    replace NB191_202 := zM ((zn BK191.1 hg : gb191 ≠ gb202))
    replace NB202_191 := zM ((zm BK191.1 hg : gb202 ≠ gb191))
    replace BK191 := zM (zb BK191.1 hb)
    replace NB192_202 := zM ((zn BK192.1 hg : gb192 ≠ gb202))
    replace NB202_192 := zM ((zm BK192.1 hg : gb202 ≠ gb192))
    replace BK192 := zM (zb BK192.1 hb)
    replace NB200_202 := zM ((zn BK200.1 hg : gb200 ≠ gb202))
    replace NB202_200 := zM ((zm BK200.1 hg : gb202 ≠ gb200))
    replace BK200 := zM (zb BK200.1 hb)
    refine hK.out _ _ zCs fun hHeld => ?_
    clear hK K
    refine zNo ?_
    exact norm_ zNr (hCont (gb202) _ ⟨hHeld, (zK BK191.1), (zK BK192.1), (zK BK200.1), (zK BK202.1), GW202.1, GE202.1, NB191_202.1, NB202_191.1, NB192_202.1, NB202_192.1, NB200_202.1, NB202_200.1, zB1⟩)
   ·refine zBs 9 57 #[.int .i64 0, .int .i64 0, .int .i64 0, .int .i64 0, .int .i64 0] ?_
    intro gb202 hg w20 hbox hb
    replace BK202 := zM hbox
    replace GW202 := zM (zW hg (below_size zB1))
    replace GE202 := zM (zW hg (below_size zB1))
    replace HB := zM (below_step zB1 hb)
    replace NB191_202 := zM ((zn BK191.1 hg : gb191 ≠ gb202))
    replace NB202_191 := zM ((zm BK191.1 hg : gb202 ≠ gb191))
    replace BK191 := zM (zb BK191.1 hb)
    replace NB192_202 := zM ((zn BK192.1 hg : gb192 ≠ gb202))
    replace NB202_192 := zM ((zm BK192.1 hg : gb202 ≠ gb192))
    replace BK192 := zM (zb BK192.1 hb)
    replace NB200_202 := zM ((zn BK200.1 hg : gb200 ≠ gb202))
    replace NB202_200 := zM ((zm BK200.1 hg : gb202 ≠ gb200))
    replace BK200 := zM (zb BK200.1 hb)
    refine hK.out _ _ zCs fun hHeld => ?_
    clear hK K
    refine zNo ?_
    refine zOn 6 (some 25) fun K hK => ?_
    refine zGs Try.func102 #[.agg #[.int .i64 t194, .int .i64 t195, .int .i64 t196, .int .i64 t197, .int .i64 t198], .slice A1_0 l1_0.length c1_0] ?_
    with_reducible refine (impl_Target.calls t194 t195 t196 t197 t198 _ _ l1_0 t201 _ ?side1 ?side2 A7.1).mono ?_
    (case side1 => exact zC (Kd.C_below HR1_0.1 HB.1))
    (case side2 => exact HC1_0.1)
    rintro e w21 ⟨rfl, hb⟩
    refine ⟨_, rfl, ?_⟩
    replace BK191 := zM (zb BK191.1 hb)
    replace BK192 := zM (zb BK192.1 hb)
    replace BK200 := zM (zb BK200.1 hb)
    replace BK202 := zM (zb BK202.1 hb)
    replace HB := zM (below_step zB1 hb)
    refine hK.out _ _ zCs fun hHeld => ?_
    clear hK K
    refine zNo ?_
    refine zPu 7 ?_
    exact norm_ zNr (hCont (gb202) _ ⟨hHeld, (zK BK191.1), (zK BK192.1), (zK BK200.1), (zK BK202.1), GW202.1, GE202.1, NB191_202.1, NB202_191.1, NB192_202.1, NB202_192.1, NB200_202.1, NB202_200.1, zB1⟩)
  rintro gb202 w22 ⟨hS_, h0_, h1_, h2_, h3_, h4_, h5_, h6_, h7_, h8_, h9_, h10_, h11_, h12_⟩
  replace BK191 := zM h0_
  replace BK192 := zM h1_
  replace BK200 := zM h2_
  replace BK202 := zM h3_
  replace GW202 := zM h4_
  replace GE202 := zM h5_
  replace NB191_202 := zM h6_
  replace NB202_191 := zM h7_
  replace NB192_202 := zM h8_
  replace NB202_192 := zM h9_
  replace NB200_202 := zM h10_
  replace NB202_200 := zM h11_
  replace HB := zM h12_
  have hHeld := hS_
  refine zNp ?_
  refine zOn 9 none fun K hK => ?_
  obtain ⟨hs23, hfs23⟩ := zHs BK202.1 0
  have hns23_0 := NB191_202.1
  have hns23_1 := NB192_202.1
  have hns23_2 := NB200_202.1
  have hms23_0 := NB202_191.1
  have hms23_1 := NB202_192.1
  have hms23_2 := NB202_200.1
  obtain ⟨hs24, hfs24⟩ := zHs BK202.1 1
  have hns24_0 := NB191_202.1
  have hns24_1 := NB192_202.1
  have hns24_2 := NB200_202.1
  have hms24_0 := NB202_191.1
  have hms24_1 := NB202_192.1
  have hms24_2 := NB202_200.1
  obtain ⟨hs25, hfs25⟩ := zHs BK202.1 2
  have hns25_0 := NB191_202.1
  have hns25_1 := NB192_202.1
  have hns25_2 := NB200_202.1
  have hms25_0 := NB202_191.1
  have hms25_1 := NB202_192.1
  have hms25_2 := NB202_200.1
  obtain ⟨hs26, hfs26⟩ := zHs BK202.1 3
  have hns26_0 := NB191_202.1
  have hns26_1 := NB192_202.1
  have hns26_2 := NB200_202.1
  have hms26_0 := NB202_191.1
  have hms26_1 := NB202_192.1
  have hms26_2 := NB202_200.1
  obtain ⟨hs27, hfs27⟩ := zHs BK202.1 4
  have hns27_0 := NB191_202.1
  have hns27_1 := NB192_202.1
  have hns27_2 := NB200_202.1
  have hms27_0 := NB202_191.1
  have hms27_1 := NB202_192.1
  have hms27_2 := NB202_200.1
  refine skip_ (w1 := ?_) (by rfl) rfl ?_ ?_
  rotate_left
  ·go_simp
   rfl
  refine hK.out _ _ zCs fun hHeld => ?_
  clear hK K
  refine done_ (done_of HT_.1 (by kernel_rfl)) ?_
  have hnb28 := NB202_191.1
  have hnc28 := NB191_202.1
  have hnb29 := NB202_192.1
  have hnc29 := NB192_202.1
  have hnb30 := NB202_200.1
  have hnc30 := NB200_202.1
  have hcz31 := zc_5 (w := w22) BK202.1
  have hcz32 := zc_5 (w := w22) BK192.1
  try go_wp2
  refine bodyPost_ret (results_cell_row rfl _ _ gb192 57 #[.int .i64 a2, .int .i64 a1_1, .int .i64 t201, .int .i64 (-1), .int .i64 (-1)] (0, 0) _ rfl zPq Try.underlying57 rfl (by kernel_rfl)) rfl ?_
  exact ⟨zE, zB1⟩
 rw [if_neg c8] at H
 have c8b0 := decide_eq_false c8
 clear c8
 replace H := zIt H
 obtain ⟨c33b0, H⟩ := H
 replace H := zIt H
 obtain ⟨c34b0, H⟩ := H
 replace H := zO H
 obtain ⟨⟨t204, t207, t208, t209⟩, A35, H⟩ := H
 try dsimp only at H
 by_cases c36 : t194 = 5
 ·rw [if_pos c36] at H
  have c36b0 : (t194 == 5) = true := beq_iff_eq.mpr c36
  have c36b1 : (t194 != 5) = false := bne_eq_false_iff_eq.mpr c36
  clear c36
  simp only [Option.some.injEq, Prod.mk.injEq] at H
  obtain ⟨rfl, rfl, rfl, rfl, rfl⟩ := H
  go_enter Try.func65, Try.ntmps65
  try go_wp2_with (first | ((with_reducible refine zBx 4 53 #[.slice A1_0 l1_0.length c1_0, .int .i64 a1_1, .int .i64 a1_2] ?_); intro gb191 hg w37 hbox hb; have BK191 := zM hbox; have GW191 := zM (zW hg (below_size zB1)); have GE191 := zM (zW hg (below_size zB1)); replace HB := zM (below_step zB1 hb); clear hb hbox hg) | ((with_reducible refine zBx 6 57 #[.int .i64 0, .int .i64 0, .int .i64 0, .int .i64 0, .int .i64 0] ?_); intro gb192 hg w38 hbox hb; have BK192 := zM hbox; have GW192 := zM (zW hg (below_size zB1)); have GE192 := zM (zW hg (below_size zB1)); replace HB := zM (below_step zB1 hb); have NB191_192 := zM ((zn BK191.1 hg : gb191 ≠ gb192)); have NB192_191 := zM ((zm BK191.1 hg : gb192 ≠ gb191)); replace BK191 := zM (zb BK191.1 hb); clear hb hbox hg; have hnb39 := NB191_192.1; have hnc39 := NB192_191.1; have hcz40 := zc_3 (w := w38) BK191.1; obtain ⟨p193, q193, ad193, e193, hx193_0⟩ := zRd (Kd.at_int HR0.1 a1_1); cases e193; replace hx193_0 := zHx HB.1 hx193_0) | ((with_reducible refine zG Try.func101 16 #[.int .i64 (rd l0 a1_1)] ?_); (with_reducible refine (impl_Decode.calls (rd l0 a1_1) t194 t195 t196 t197 t198 t199 _ A6.1).mono ?_); rintro e w41 ⟨rfl, hb⟩; refine ⟨_, rfl, ?_⟩; replace BK191 := zM (zb BK191.1 hb); replace BK192 := zM (zb BK192.1 hb); replace HB := zM (below_step zB1 hb); clear hb) | ((with_reducible refine zBx 7 109 #[.int .i64 0, .int .i64 0, .int .i64 0, .int .i64 0, .int .i64 0] ?_); intro gb200 hg w42 hbox hb; have BK200 := zM hbox; have GW200 := zM (zW hg (below_size zB1)); have GE200 := zM (zW hg (below_size zB1)); replace HB := zM (below_step zB1 hb); have NB191_200 := zM ((zn BK191.1 hg : gb191 ≠ gb200)); have NB200_191 := zM ((zm BK191.1 hg : gb200 ≠ gb191)); replace BK191 := zM (zb BK191.1 hb); have NB192_200 := zM ((zn BK192.1 hg : gb192 ≠ gb200)); have NB200_192 := zM ((zm BK192.1 hg : gb200 ≠ gb192)); replace BK192 := zM (zb BK192.1 hb); clear hb hbox hg; have hnb43 := NB200_191.1; have hnc43 := NB191_200.1; have hnb44 := NB200_192.1; have hnc44 := NB192_200.1; have hcz45 := zc_5 (w := w42) BK200.1))
  generalize hw_ : (((((w42.setCell ⟨gb200, 0, none⟩ (.int .i64 t194)).setCell ⟨gb200, 1, none⟩ (.int .i64 t195)).setCell ⟨gb200, 2, none⟩ (.int .i64 t196)).setCell ⟨gb200, 3, none⟩ (.int .i64 t197)).setCell ⟨gb200, 4, none⟩ (.int .i64 t198)) = w46
  have n0_ : Aside0 (w46.heap[gb191]? = some (.cells #[.slice A1_0 l1_0.length c1_0, .int .i64 a1_1, .int .i64 a1_2] 53 (0, 0))) := ⟨by rw [← hw_]; exact zPq⟩
  have n1_ : Aside0 (w46.heap[gb192]? = some (.cells #[.int .i64 0, .int .i64 0, .int .i64 0, .int .i64 0, .int .i64 0] 57 (0, 0))) := ⟨by rw [← hw_]; exact zPq⟩
  have n2_ : Aside0 (w46.heap[gb200]? = some (.cells #[.int .i64 t194, .int .i64 t195, .int .i64 t196, .int .i64 t197, .int .i64 t198] 109 (0, 0))) := ⟨by rw [← hw_]; exact zp5 (zK BK200.1)⟩
  have n3_ : Aside0 (Below w.heap.size w w46) := ⟨by rw [← hw_]; exact zB1⟩
  (try clear BK191)
  (try clear BK192)
  (try clear BK200)
  (try clear HB)
  clear hw_
  have BK191 := n0_
  have BK192 := n1_
  have BK200 := n2_
  have HB := n3_
  clear n0_ n1_ n2_ n3_
  replace BK191 := zM (blk_drew BK191.1)
  replace BK192 := zM (blk_drew BK192.1)
  replace BK200 := zM (blk_drew BK200.1)
  replace HB := zM (below_drew1 HB.1)
  refine start_ (n := 10) (S := fun w' => w'.cell? ⟨gb191, 0, none⟩ = some (.slice A1_0 l1_0.length c1_0) ∧ w'.cell? ⟨gb191, 1, none⟩ = some (.int .i64 a1_1) ∧ w'.cell? ⟨gb191, 2, none⟩ = some (.int .i64 a1_2) ∧ w'.cell? ⟨gb200, 0, none⟩ = some (.int .i64 t194) ∧ w'.cell? ⟨gb200, 1, none⟩ = some (.int .i64 t195) ∧ w'.cell? ⟨gb200, 2, none⟩ = some (.int .i64 t196) ∧ w'.cell? ⟨gb200, 3, none⟩ = some (.int .i64 t197) ∧ w'.cell? ⟨gb200, 4, none⟩ = some (.int .i64 t198)) (ds := []) zq6_0 (by kernel_rfl) rfl rfl ⟨(blk_cell BK191.1 0).trans rfl, (blk_cell BK191.1 1).trans rfl, (blk_cell BK191.1 2).trans rfl, (blk_cell BK200.1 0).trans rfl, (blk_cell BK200.1 1).trans rfl, (blk_cell BK200.1 2).trans rfl, (blk_cell BK200.1 3).trans rfl, (blk_cell BK200.1 4).trans rfl⟩ (fun hHeld => ?_); refine with_tabW impl_eventOf.tab2 impl_eventOf.bits2 (fun HT_ HW_ => ?_)
  generalize w46.drew = w47 at BK191 BK192 BK200 HB hHeld ⊢
  refine zPu 0 ?_
  refine zPu 1 ?_
  refine zPu 4 ?_
  refine zTk8 2 hHeld ?_
  refine zTk8 3 hHeld ?_
  refine zTk8 5 hHeld ?_
  refine join_ (σ := Nat) 1 zq6_7 (fun s_ => [(25, .int .i64 t201), (9, .pointer (some ⟨s_, 0, none⟩)), (26, .agg #[.int .i64 a2, .int .i64 a1_1, .int .i64 t201, .int .i64 (-1), .int .i64 (-1)])]) (fun s_ w' => (w'.cell? ⟨gb191, 0, none⟩ = some (.slice A1_0 l1_0.length c1_0) ∧ w'.cell? ⟨gb191, 1, none⟩ = some (.int .i64 a1_1) ∧ w'.cell? ⟨gb191, 2, none⟩ = some (.int .i64 a1_2) ∧ w'.cell? ⟨gb200, 0, none⟩ = some (.int .i64 t194) ∧ w'.cell? ⟨gb200, 1, none⟩ = some (.int .i64 t195) ∧ w'.cell? ⟨gb200, 2, none⟩ = some (.int .i64 t196) ∧ w'.cell? ⟨gb200, 3, none⟩ = some (.int .i64 t197) ∧ w'.cell? ⟨gb200, 4, none⟩ = some (.int .i64 t198)) ∧ (w'.heap[gb191]? = some (.cells #[.slice A1_0 l1_0.length c1_0, .int .i64 a1_1, .int .i64 a1_2] 53 (0, 0))) ∧ (w'.heap[gb192]? = some (.cells #[.int .i64 0, .int .i64 0, .int .i64 0, .int .i64 0, .int .i64 0] 57 (0, 0))) ∧ (w'.heap[gb200]? = some (.cells #[.int .i64 t194, .int .i64 t195, .int .i64 t196, .int .i64 t197, .int .i64 t198] 109 (0, 0))) ∧ (w'.heap[s_]? = some (.cells #[.int .i64 0, .int .i64 0, .int .i64 0, .int .i64 0, .int .i64 0] 57 (0, 0))) ∧ (w.heap.size ≤ s_) ∧ (w.heap.size ≤ s_) ∧ (gb191 ≠ s_) ∧ (s_ ≠ gb191) ∧ (gb192 ≠ s_) ∧ (s_ ≠ gb192) ∧ (gb200 ≠ s_) ∧ (s_ ≠ gb200) ∧ (Below w.heap.size w w')) ?_ ?_
  rotate_left
  ·intro hCont
   refine two_ (i := 6) (j := 8) (Ni := some 25) (Nj := some 9) zq6_8 zq6_9 rfl rfl rfl rfl (two_of HT_.1 (by kernel_rfl)) (by decide) (by decide) (fun K hK => ?_) (fun K hK => ?_)
   ·refine zGs Try.func102 #[.agg #[.int .i64 t194, .int .i64 t195, .int .i64 t196, .int .i64 t197, .int .i64 t198], .slice A1_0 l1_0.length c1_0] ?_
    with_reducible refine (impl_Target.calls t194 t195 t196 t197 t198 _ _ l1_0 t201 _ ?side1 ?side2 A7.1).mono ?_
    (case side1 => exact zC (Kd.C_below HR1_0.1 HB.1))
    (case side2 => exact HC1_0.1)
    rintro e w48 ⟨rfl, hb⟩
    refine ⟨_, rfl, ?_⟩
    replace BK191 := zM (zb BK191.1 hb)
    replace BK192 := zM (zb BK192.1 hb)
    replace BK200 := zM (zb BK200.1 hb)
    replace HB := zM (below_step zB1 hb)
    refine hK.out _ _ zCs fun hHeld => ?_
    clear hK K
    refine zNo ?_
    refine zPu 7 ?_
    refine zOn 8 (some 9) fun K hK => ?_
    refine zBs 9 57 #[.int .i64 0, .int .i64 0, .int .i64 0, .int .i64 0, .int .i64 0] ?_
    intro gb202 hg w49 hbox hb
    replace BK202 := zM hbox
    replace GW202 := zM (zW hg (below_size zB1))
    replace GE202 := zM (zW hg (below_size zB1))
    replace HB := zM (below_step zB1 hb)
    replace NB191_202 := zM ((zn BK191.1 hg : gb191 ≠ gb202))
    replace NB202_191 := zM ((zm BK191.1 hg : gb202 ≠ gb191))
    replace BK191 := zM (zb BK191.1 hb)
    replace NB192_202 := zM ((zn BK192.1 hg : gb192 ≠ gb202))
    replace NB202_192 := zM ((zm BK192.1 hg : gb202 ≠ gb192))
    replace BK192 := zM (zb BK192.1 hb)
    replace NB200_202 := zM ((zn BK200.1 hg : gb200 ≠ gb202))
    replace NB202_200 := zM ((zm BK200.1 hg : gb202 ≠ gb200))
    replace BK200 := zM (zb BK200.1 hb)
    refine hK.out _ _ zCs fun hHeld => ?_
    clear hK K
    refine zNo ?_
    exact norm_ zNr (hCont (gb202) _ ⟨hHeld, (zK BK191.1), (zK BK192.1), (zK BK200.1), (zK BK202.1), GW202.1, GE202.1, NB191_202.1, NB202_191.1, NB192_202.1, NB202_192.1, NB200_202.1, NB202_200.1, zB1⟩)
   ·refine zBs 9 57 #[.int .i64 0, .int .i64 0, .int .i64 0, .int .i64 0, .int .i64 0] ?_
    intro gb202 hg w48 hbox hb
    replace BK202 := zM hbox
    replace GW202 := zM (zW hg (below_size zB1))
    replace GE202 := zM (zW hg (below_size zB1))
    replace HB := zM (below_step zB1 hb)
    replace NB191_202 := zM ((zn BK191.1 hg : gb191 ≠ gb202))
    replace NB202_191 := zM ((zm BK191.1 hg : gb202 ≠ gb191))
    replace BK191 := zM (zb BK191.1 hb)
    replace NB192_202 := zM ((zn BK192.1 hg : gb192 ≠ gb202))
    replace NB202_192 := zM ((zm BK192.1 hg : gb202 ≠ gb192))
    replace BK192 := zM (zb BK192.1 hb)
    replace NB200_202 := zM ((zn BK200.1 hg : gb200 ≠ gb202))
    replace NB202_200 := zM ((zm BK200.1 hg : gb202 ≠ gb200))
    replace BK200 := zM (zb BK200.1 hb)
    refine hK.out _ _ zCs fun hHeld => ?_
    clear hK K
    refine zNo ?_
    refine zOn 6 (some 25) fun K hK => ?_
    refine zGs Try.func102 #[.agg #[.int .i64 t194, .int .i64 t195, .int .i64 t196, .int .i64 t197, .int .i64 t198], .slice A1_0 l1_0.length c1_0] ?_
    with_reducible refine (impl_Target.calls t194 t195 t196 t197 t198 _ _ l1_0 t201 _ ?side1 ?side2 A7.1).mono ?_
    (case side1 => exact zC (Kd.C_below HR1_0.1 HB.1))
    (case side2 => exact HC1_0.1)
    rintro e w49 ⟨rfl, hb⟩
    refine ⟨_, rfl, ?_⟩
    replace BK191 := zM (zb BK191.1 hb)
    replace BK192 := zM (zb BK192.1 hb)
    replace BK200 := zM (zb BK200.1 hb)
    replace BK202 := zM (zb BK202.1 hb)
    replace HB := zM (below_step zB1 hb)
    refine hK.out _ _ zCs fun hHeld => ?_
    clear hK K
    refine zNo ?_
    refine zPu 7 ?_
    exact norm_ zNr (hCont (gb202) _ ⟨hHeld, (zK BK191.1), (zK BK192.1), (zK BK200.1), (zK BK202.1), GW202.1, GE202.1, NB191_202.1, NB202_191.1, NB192_202.1, NB202_192.1, NB200_202.1, NB202_200.1, zB1⟩)
  rintro gb202 w50 ⟨hS_, h0_, h1_, h2_, h3_, h4_, h5_, h6_, h7_, h8_, h9_, h10_, h11_, h12_⟩
  replace BK191 := zM h0_
  replace BK192 := zM h1_
  replace BK200 := zM h2_
  replace BK202 := zM h3_
  replace GW202 := zM h4_
  replace GE202 := zM h5_
  replace NB191_202 := zM h6_
  replace NB202_191 := zM h7_
  replace NB192_202 := zM h8_
  replace NB202_192 := zM h9_
  replace NB200_202 := zM h10_
  replace NB202_200 := zM h11_
  replace HB := zM h12_
  have hHeld := hS_
  refine zNp ?_
  refine zOn 9 none fun K hK => ?_
  obtain ⟨hs51, hfs51⟩ := zHs BK202.1 0
  have hns51_0 := NB191_202.1
  have hns51_1 := NB192_202.1
  have hns51_2 := NB200_202.1
  have hms51_0 := NB202_191.1
  have hms51_1 := NB202_192.1
  have hms51_2 := NB202_200.1
  obtain ⟨hs52, hfs52⟩ := zHs BK202.1 1
  have hns52_0 := NB191_202.1
  have hns52_1 := NB192_202.1
  have hns52_2 := NB200_202.1
  have hms52_0 := NB202_191.1
  have hms52_1 := NB202_192.1
  have hms52_2 := NB202_200.1
  obtain ⟨hs53, hfs53⟩ := zHs BK202.1 2
  have hns53_0 := NB191_202.1
  have hns53_1 := NB192_202.1
  have hns53_2 := NB200_202.1
  have hms53_0 := NB202_191.1
  have hms53_1 := NB202_192.1
  have hms53_2 := NB202_200.1
  obtain ⟨hs54, hfs54⟩ := zHs BK202.1 3
  have hns54_0 := NB191_202.1
  have hns54_1 := NB192_202.1
  have hns54_2 := NB200_202.1
  have hms54_0 := NB202_191.1
  have hms54_1 := NB202_192.1
  have hms54_2 := NB202_200.1
  obtain ⟨hs55, hfs55⟩ := zHs BK202.1 4
  have hns55_0 := NB191_202.1
  have hns55_1 := NB192_202.1
  have hns55_2 := NB200_202.1
  have hms55_0 := NB202_191.1
  have hms55_1 := NB202_192.1
  have hms55_2 := NB202_200.1
  refine skip_ (w1 := ?_) (by rfl) rfl ?_ ?_
  rotate_left
  ·go_simp
   rfl
  refine hK.out _ _ zCs fun hHeld => ?_
  clear hK K
  refine done_ (done_of HT_.1 (by kernel_rfl)) ?_
  have hnb56 := NB202_191.1
  have hnc56 := NB191_202.1
  have hnb57 := NB202_192.1
  have hnc57 := NB192_202.1
  have hnb58 := NB202_200.1
  have hnc58 := NB200_202.1
  have hcz59 := zc_5 (w := w50) BK202.1
  try go_wp2
  generalize hw_ : (((((w50.setCell ⟨gb202, 0, none⟩ (.int .i64 a2)).setCell ⟨gb202, 1, none⟩ (.int .i64 a1_1)).setCell ⟨gb202, 2, none⟩ (.int .i64 t201)).setCell ⟨gb202, 3, none⟩ (.int .i64 (-1))).setCell ⟨gb202, 4, none⟩ (.int .i64 (-1))) = w60
  have n0_ : Aside0 (w60.heap[gb191]? = some (.cells #[.slice A1_0 l1_0.length c1_0, .int .i64 a1_1, .int .i64 a1_2] 53 (0, 0))) := ⟨by rw [← hw_]; exact zPq⟩
  have n1_ : Aside0 (w60.heap[gb192]? = some (.cells #[.int .i64 0, .int .i64 0, .int .i64 0, .int .i64 0, .int .i64 0] 57 (0, 0))) := ⟨by rw [← hw_]; exact zPq⟩
  have n2_ : Aside0 (w60.heap[gb200]? = some (.cells #[.int .i64 t194, .int .i64 t195, .int .i64 t196, .int .i64 t197, .int .i64 t198] 109 (0, 0))) := ⟨by rw [← hw_]; exact zPq⟩
  have n3_ : Aside0 (w60.heap[gb202]? = some (.cells #[.int .i64 a2, .int .i64 a1_1, .int .i64 t201, .int .i64 (-1), .int .i64 (-1)] 57 (0, 0))) := ⟨by rw [← hw_]; exact zp5 (zK BK202.1)⟩
  have n4_ : Aside0 (Below w.heap.size w w60) := ⟨by rw [← hw_]; exact zB1⟩
  (try clear BK191)
  (try clear BK192)
  (try clear BK200)
  (try clear BK202)
  (try clear HB)
  clear hw_
  have BK191 := n0_
  have BK192 := n1_
  have BK200 := n2_
  have BK202 := n3_
  have HB := n4_
  clear n0_ n1_ n2_ n3_ n4_
  replace BK191 := zM (blk_drew BK191.1)
  replace BK192 := zM (blk_drew BK192.1)
  replace BK200 := zM (blk_drew BK200.1)
  replace BK202 := zM (blk_drew BK202.1)
  replace HB := zM (below_drew1 HB.1)
  obtain ⟨p203, q203, ad203, e203, hx203_0⟩ := zRd (Kd.at_int HR0.1 t201)
  have hw203_0 := hx203_0
  obtain rfl : ad193 = ad203 := (by injection e203)
  replace hx203_0 := zHx HB.1 hx203_0
  refine start_ (n := 13) (S := fun w' => w'.cell? ⟨gb191, 0, none⟩ = some (.slice A1_0 l1_0.length c1_0) ∧ w'.cell? ⟨gb191, 1, none⟩ = some (.int .i64 a1_1) ∧ w'.cell? ⟨gb191, 2, none⟩ = some (.int .i64 a1_2) ∧ w'.cell? ⟨gb200, 0, none⟩ = some (.int .i64 t194) ∧ w'.cell? ⟨gb200, 1, none⟩ = some (.int .i64 t195) ∧ w'.cell? ⟨gb200, 2, none⟩ = some (.int .i64 t196) ∧ w'.cell? ⟨gb200, 3, none⟩ = some (.int .i64 t197) ∧ w'.cell? ⟨gb200, 4, none⟩ = some (.int .i64 t198) ∧ w'.cell? ⟨gb202, 0, none⟩ = some (.int .i64 a2) ∧ w'.cell? ⟨gb202, 1, none⟩ = some (.int .i64 a1_1) ∧ w'.cell? ⟨gb202, 2, none⟩ = some (.int .i64 t201) ∧ w'.cell? ⟨gb202, 3, none⟩ = some (.int .i64 (-1)) ∧ w'.cell? ⟨gb202, 4, none⟩ = some (.int .i64 (-1)) ∧ w'.cell? (ad193.add (t201).toNat) = some (.int .i64 (rd l0 t201))) (ds := [12]) zq6_13 (by kernel_rfl) rfl rfl ⟨(blk_cell BK191.1 0).trans rfl, (blk_cell BK191.1 1).trans rfl, (blk_cell BK191.1 2).trans rfl, (blk_cell BK200.1 0).trans rfl, (blk_cell BK200.1 1).trans rfl, (blk_cell BK200.1 2).trans rfl, (blk_cell BK200.1 3).trans rfl, (blk_cell BK200.1 4).trans rfl, (blk_cell BK202.1 0).trans rfl, (blk_cell BK202.1 1).trans rfl, (blk_cell BK202.1 2).trans rfl, (blk_cell BK202.1 3).trans rfl, (blk_cell BK202.1 4).trans rfl, ((HB.1.cell (World.block_lt_of_cell? w _ hw203_0)).trans hw203_0)⟩ (fun hHeld => ?_); refine with_tabW impl_eventOf.tab5 impl_eventOf.bits5 (fun HT_ HW_ => ?_)
  generalize w60.drew = w61 at BK191 BK192 BK200 BK202 HB hx203_0 hHeld ⊢
  refine zPu 2 ?_
  refine zPu 3 ?_
  refine zTk14 0 hHeld ?_
  refine zTk14 1 hHeld ?_
  refine zTk14 4 hHeld ?_
  refine zPu 5 ?_
  refine zTk14 6 hHeld ?_
  refine zOn 7 (some 39) fun K hK => ?_
  refine zGs Try.func103 #[.agg #[.slice A1_0 l1_0.length c1_0, .int .i64 a1_1, .int .i64 a1_2], .agg #[.int .i64 t194, .int .i64 t195, .int .i64 t196, .int .i64 t197, .int .i64 t198], .int .i64 (rd l0 t201)] ?_
  with_reducible refine (impl_Work.calls k _ _ l1_0 a1_1 a1_2 t194 t195 t196 t197 t198 (rd l0 t201) t204 t207 t208 t209 _ ?side1 ?side2 A35.1).mono ?_
  (case side1 => exact zC (Kd.C_below HR1_0.1 HB.1))
  (case side2 => exact HC1_0.1)
  rintro e w62 ⟨v205, rfl, ho0, hb⟩
  refine ⟨_, rfl, ?_⟩
  have HO206 := zM (Kd.R_lower ho0 (below_size zB1))
  replace BK191 := zM (zb BK191.1 hb)
  replace BK192 := zM (zb BK192.1 hb)
  replace BK200 := zM (zb BK200.1 hb)
  replace BK202 := zM (zb BK202.1 hb)
  replace HB := zM (below_step zB1 hb)
  (try clear ho0)
  refine hK.out _ _ ⟨(blk_cell BK191.1 0).trans rfl, (blk_cell BK191.1 1).trans rfl, (blk_cell BK191.1 2).trans rfl, (blk_cell BK200.1 0).trans rfl, (blk_cell BK200.1 1).trans rfl, (blk_cell BK200.1 2).trans rfl, (blk_cell BK200.1 3).trans rfl, (blk_cell BK200.1 4).trans rfl, (blk_cell BK202.1 0).trans rfl, (blk_cell BK202.1 1).trans rfl, (blk_cell BK202.1 2).trans rfl, (blk_cell BK202.1 3).trans rfl, (blk_cell BK202.1 4).trans rfl, ((HB.1.cell (World.block_lt_of_cell? w _ hw203_0)).trans hw203_0)⟩ (fun hHeld => ?_)
  clear hK K
  refine zNo ?_
  refine zPu 8 ?_
  refine zPu 9 ?_
  refine zPu 10 ?_
  refine zPu 11 ?_
  refine last_ (i := 12) (N := none) zq6_26 rfl rfl (one_of HT_.1 (by kernel_rfl)) (by decide) (fun K hK => ?_)
  obtain ⟨hs63, hfs63⟩ := zHs BK202.1 4
  have hns63_0 := NB191_202.1
  have hns63_1 := NB192_202.1
  have hns63_2 := NB200_202.1
  have hms63_0 := NB202_191.1
  have hms63_1 := NB202_192.1
  have hms63_2 := NB202_200.1
  refine skip_ (w1 := ?_) (by rfl) rfl ?_ ?_
  rotate_left
  ·go_simp
   rfl
  refine hK.out _ _ ?_
  clear hK K
  refine done_ (done_of HT_.1 (by kernel_rfl)) ?_
  have hcz64 := zc_5 (w := w62) BK200.1
  have hcz65 := zc_5 (w := w62) BK202.1
  have hcz66 := zc_5 (w := w62) BK192.1
  try go_wp2
  refine bodyPost_ret (results_cell_row rfl _ _ gb192 57 #[.int .i64 a2, .int .i64 a1_1, .int .i64 t201, .int .i64 (-1), .int .i64 t209] (0, 0) _ rfl zPq Try.underlying57 rfl (by kernel_rfl)) rfl ?_
  exact ⟨zE, zB1⟩
 rw [if_neg c36] at H
 have c36b0 : (t194 == 5) = false := beq_eq_false_iff_ne.mpr c36
 have c36b1 : (t194 != 5) = true := bne_iff_ne.mpr c36
 simp only [Option.some.injEq, Prod.mk.injEq] at H
 obtain ⟨rfl, rfl, rfl, rfl, rfl⟩ := H
 go_enter Try.func65, Try.ntmps65
 try go_wp2_with (first | ((with_reducible refine zBx 4 53 #[.slice A1_0 l1_0.length c1_0, .int .i64 a1_1, .int .i64 a1_2] ?_); intro gb191 hg w67 hbox hb; have BK191 := zM hbox; have GW191 := zM (zW hg (below_size zB1)); have GE191 := zM (zW hg (below_size zB1)); replace HB := zM (below_step zB1 hb); clear hb hbox hg) | ((with_reducible refine zBx 6 57 #[.int .i64 0, .int .i64 0, .int .i64 0, .int .i64 0, .int .i64 0] ?_); intro gb192 hg w68 hbox hb; have BK192 := zM hbox; have GW192 := zM (zW hg (below_size zB1)); have GE192 := zM (zW hg (below_size zB1)); replace HB := zM (below_step zB1 hb); have NB191_192 := zM ((zn BK191.1 hg : gb191 ≠ gb192)); have NB192_191 := zM ((zm BK191.1 hg : gb192 ≠ gb191)); replace BK191 := zM (zb BK191.1 hb); clear hb hbox hg; have hnb69 := NB191_192.1; have hnc69 := NB192_191.1; have hcz70 := zc_3 (w := w68) BK191.1; obtain ⟨p193, q193, ad193, e193, hx193_0⟩ := zRd (Kd.at_int HR0.1 a1_1); cases e193; replace hx193_0 := zHx HB.1 hx193_0) | ((with_reducible refine zG Try.func101 16 #[.int .i64 (rd l0 a1_1)] ?_); (with_reducible refine (impl_Decode.calls (rd l0 a1_1) t194 t195 t196 t197 t198 t199 _ A6.1).mono ?_); rintro e w71 ⟨rfl, hb⟩; refine ⟨_, rfl, ?_⟩; replace BK191 := zM (zb BK191.1 hb); replace BK192 := zM (zb BK192.1 hb); replace HB := zM (below_step zB1 hb); clear hb) | ((with_reducible refine zBx 7 109 #[.int .i64 0, .int .i64 0, .int .i64 0, .int .i64 0, .int .i64 0] ?_); intro gb200 hg w72 hbox hb; have BK200 := zM hbox; have GW200 := zM (zW hg (below_size zB1)); have GE200 := zM (zW hg (below_size zB1)); replace HB := zM (below_step zB1 hb); have NB191_200 := zM ((zn BK191.1 hg : gb191 ≠ gb200)); have NB200_191 := zM ((zm BK191.1 hg : gb200 ≠ gb191)); replace BK191 := zM (zb BK191.1 hb); have NB192_200 := zM ((zn BK192.1 hg : gb192 ≠ gb200)); have NB200_192 := zM ((zm BK192.1 hg : gb200 ≠ gb192)); replace BK192 := zM (zb BK192.1 hb); clear hb hbox hg; have hnb73 := NB200_191.1; have hnc73 := NB191_200.1; have hnb74 := NB200_192.1; have hnc74 := NB192_200.1; have hcz75 := zc_5 (w := w72) BK200.1))
 generalize hw_ : (((((w72.setCell ⟨gb200, 0, none⟩ (.int .i64 t194)).setCell ⟨gb200, 1, none⟩ (.int .i64 t195)).setCell ⟨gb200, 2, none⟩ (.int .i64 t196)).setCell ⟨gb200, 3, none⟩ (.int .i64 t197)).setCell ⟨gb200, 4, none⟩ (.int .i64 t198)) = w76
 have n0_ : Aside0 (w76.heap[gb191]? = some (.cells #[.slice A1_0 l1_0.length c1_0, .int .i64 a1_1, .int .i64 a1_2] 53 (0, 0))) := ⟨by rw [← hw_]; exact zPq⟩
 have n1_ : Aside0 (w76.heap[gb192]? = some (.cells #[.int .i64 0, .int .i64 0, .int .i64 0, .int .i64 0, .int .i64 0] 57 (0, 0))) := ⟨by rw [← hw_]; exact zPq⟩
 have n2_ : Aside0 (w76.heap[gb200]? = some (.cells #[.int .i64 t194, .int .i64 t195, .int .i64 t196, .int .i64 t197, .int .i64 t198] 109 (0, 0))) := ⟨by rw [← hw_]; exact zp5 (zK BK200.1)⟩
 have n3_ : Aside0 (Below w.heap.size w w76) := ⟨by rw [← hw_]; exact zB1⟩
 (try clear BK191)
 (try clear BK192)
 (try clear BK200)
 (try clear HB)
 clear hw_
 have BK191 := n0_
 have BK192 := n1_
 have BK200 := n2_
 have HB := n3_
 clear n0_ n1_ n2_ n3_
 replace BK191 := zM (blk_drew BK191.1)
 replace BK192 := zM (blk_drew BK192.1)
 replace BK200 := zM (blk_drew BK200.1)
 replace HB := zM (below_drew1 HB.1)
 refine start_ (n := 10) (S := fun w' => w'.cell? ⟨gb191, 0, none⟩ = some (.slice A1_0 l1_0.length c1_0) ∧ w'.cell? ⟨gb191, 1, none⟩ = some (.int .i64 a1_1) ∧ w'.cell? ⟨gb191, 2, none⟩ = some (.int .i64 a1_2) ∧ w'.cell? ⟨gb200, 0, none⟩ = some (.int .i64 t194) ∧ w'.cell? ⟨gb200, 1, none⟩ = some (.int .i64 t195) ∧ w'.cell? ⟨gb200, 2, none⟩ = some (.int .i64 t196) ∧ w'.cell? ⟨gb200, 3, none⟩ = some (.int .i64 t197) ∧ w'.cell? ⟨gb200, 4, none⟩ = some (.int .i64 t198)) (ds := []) zq6_0 (by kernel_rfl) rfl rfl ⟨(blk_cell BK191.1 0).trans rfl, (blk_cell BK191.1 1).trans rfl, (blk_cell BK191.1 2).trans rfl, (blk_cell BK200.1 0).trans rfl, (blk_cell BK200.1 1).trans rfl, (blk_cell BK200.1 2).trans rfl, (blk_cell BK200.1 3).trans rfl, (blk_cell BK200.1 4).trans rfl⟩ (fun hHeld => ?_); refine with_tabW impl_eventOf.tab2 impl_eventOf.bits2 (fun HT_ HW_ => ?_)
 generalize w76.drew = w77 at BK191 BK192 BK200 HB hHeld ⊢
 refine zPu 0 ?_
 refine zPu 1 ?_
 refine zPu 4 ?_
 refine zTk8 2 hHeld ?_
 refine zTk8 3 hHeld ?_
 refine zTk8 5 hHeld ?_
 refine join_ (σ := Nat) 1 zq6_7 (fun s_ => [(25, .int .i64 t201), (9, .pointer (some ⟨s_, 0, none⟩)), (26, .agg #[.int .i64 a2, .int .i64 a1_1, .int .i64 t201, .int .i64 (-1), .int .i64 (-1)])]) (fun s_ w' => (w'.cell? ⟨gb191, 0, none⟩ = some (.slice A1_0 l1_0.length c1_0) ∧ w'.cell? ⟨gb191, 1, none⟩ = some (.int .i64 a1_1) ∧ w'.cell? ⟨gb191, 2, none⟩ = some (.int .i64 a1_2) ∧ w'.cell? ⟨gb200, 0, none⟩ = some (.int .i64 t194) ∧ w'.cell? ⟨gb200, 1, none⟩ = some (.int .i64 t195) ∧ w'.cell? ⟨gb200, 2, none⟩ = some (.int .i64 t196) ∧ w'.cell? ⟨gb200, 3, none⟩ = some (.int .i64 t197) ∧ w'.cell? ⟨gb200, 4, none⟩ = some (.int .i64 t198)) ∧ (w'.heap[gb191]? = some (.cells #[.slice A1_0 l1_0.length c1_0, .int .i64 a1_1, .int .i64 a1_2] 53 (0, 0))) ∧ (w'.heap[gb192]? = some (.cells #[.int .i64 0, .int .i64 0, .int .i64 0, .int .i64 0, .int .i64 0] 57 (0, 0))) ∧ (w'.heap[gb200]? = some (.cells #[.int .i64 t194, .int .i64 t195, .int .i64 t196, .int .i64 t197, .int .i64 t198] 109 (0, 0))) ∧ (w'.heap[s_]? = some (.cells #[.int .i64 0, .int .i64 0, .int .i64 0, .int .i64 0, .int .i64 0] 57 (0, 0))) ∧ (w.heap.size ≤ s_) ∧ (w.heap.size ≤ s_) ∧ (gb191 ≠ s_) ∧ (s_ ≠ gb191) ∧ (gb192 ≠ s_) ∧ (s_ ≠ gb192) ∧ (gb200 ≠ s_) ∧ (s_ ≠ gb200) ∧ (Below w.heap.size w w')) ?_ ?_
 rotate_left
 ·intro hCont
  refine two_ (i := 6) (j := 8) (Ni := some 25) (Nj := some 9) zq6_8 zq6_9 rfl rfl rfl rfl (two_of HT_.1 (by kernel_rfl)) (by decide) (by decide) (fun K hK => ?_) (fun K hK => ?_)
  ·refine zGs Try.func102 #[.agg #[.int .i64 t194, .int .i64 t195, .int .i64 t196, .int .i64 t197, .int .i64 t198], .slice A1_0 l1_0.length c1_0] ?_
   with_reducible refine (impl_Target.calls t194 t195 t196 t197 t198 _ _ l1_0 t201 _ ?side1 ?side2 A7.1).mono ?_
   (case side1 => exact zC (Kd.C_below HR1_0.1 HB.1))
   (case side2 => exact HC1_0.1)
   rintro e w78 ⟨rfl, hb⟩
   refine ⟨_, rfl, ?_⟩
   replace BK191 := zM (zb BK191.1 hb)
   replace BK192 := zM (zb BK192.1 hb)
   replace BK200 := zM (zb BK200.1 hb)
   replace HB := zM (below_step zB1 hb)
   refine hK.out _ _ zCs fun hHeld => ?_
   clear hK K
   refine zNo ?_
   refine zPu 7 ?_
   refine zOn 8 (some 9) fun K hK => ?_
   refine zBs 9 57 #[.int .i64 0, .int .i64 0, .int .i64 0, .int .i64 0, .int .i64 0] ?_
   intro gb202 hg w79 hbox hb
   replace BK202 := zM hbox
   replace GW202 := zM (zW hg (below_size zB1))
   replace GE202 := zM (zW hg (below_size zB1))
   replace HB := zM (below_step zB1 hb)
   replace NB191_202 := zM ((zn BK191.1 hg : gb191 ≠ gb202))
   replace NB202_191 := zM ((zm BK191.1 hg : gb202 ≠ gb191))
   replace BK191 := zM (zb BK191.1 hb)
   replace NB192_202 := zM ((zn BK192.1 hg : gb192 ≠ gb202))
   replace NB202_192 := zM ((zm BK192.1 hg : gb202 ≠ gb192))
   replace BK192 := zM (zb BK192.1 hb)
   replace NB200_202 := zM ((zn BK200.1 hg : gb200 ≠ gb202))
   replace NB202_200 := zM ((zm BK200.1 hg : gb202 ≠ gb200))
   replace BK200 := zM (zb BK200.1 hb)
   refine hK.out _ _ zCs fun hHeld => ?_
   clear hK K
   refine zNo ?_
   exact norm_ zNr (hCont (gb202) _ ⟨hHeld, (zK BK191.1), (zK BK192.1), (zK BK200.1), (zK BK202.1), GW202.1, GE202.1, NB191_202.1, NB202_191.1, NB192_202.1, NB202_192.1, NB200_202.1, NB202_200.1, zB1⟩)
  ·refine zBs 9 57 #[.int .i64 0, .int .i64 0, .int .i64 0, .int .i64 0, .int .i64 0] ?_
   intro gb202 hg w78 hbox hb
   replace BK202 := zM hbox
   replace GW202 := zM (zW hg (below_size zB1))
   replace GE202 := zM (zW hg (below_size zB1))
   replace HB := zM (below_step zB1 hb)
   replace NB191_202 := zM ((zn BK191.1 hg : gb191 ≠ gb202))
   replace NB202_191 := zM ((zm BK191.1 hg : gb202 ≠ gb191))
   replace BK191 := zM (zb BK191.1 hb)
   replace NB192_202 := zM ((zn BK192.1 hg : gb192 ≠ gb202))
   replace NB202_192 := zM ((zm BK192.1 hg : gb202 ≠ gb192))
   replace BK192 := zM (zb BK192.1 hb)
   replace NB200_202 := zM ((zn BK200.1 hg : gb200 ≠ gb202))
   replace NB202_200 := zM ((zm BK200.1 hg : gb202 ≠ gb200))
   replace BK200 := zM (zb BK200.1 hb)
   refine hK.out _ _ zCs fun hHeld => ?_
   clear hK K
   refine zNo ?_
   refine zOn 6 (some 25) fun K hK => ?_
   refine zGs Try.func102 #[.agg #[.int .i64 t194, .int .i64 t195, .int .i64 t196, .int .i64 t197, .int .i64 t198], .slice A1_0 l1_0.length c1_0] ?_
   with_reducible refine (impl_Target.calls t194 t195 t196 t197 t198 _ _ l1_0 t201 _ ?side1 ?side2 A7.1).mono ?_
   (case side1 => exact zC (Kd.C_below HR1_0.1 HB.1))
   (case side2 => exact HC1_0.1)
   rintro e w79 ⟨rfl, hb⟩
   refine ⟨_, rfl, ?_⟩
   replace BK191 := zM (zb BK191.1 hb)
   replace BK192 := zM (zb BK192.1 hb)
   replace BK200 := zM (zb BK200.1 hb)
   replace BK202 := zM (zb BK202.1 hb)
   replace HB := zM (below_step zB1 hb)
   refine hK.out _ _ zCs fun hHeld => ?_
   clear hK K
   refine zNo ?_
   refine zPu 7 ?_
   exact norm_ zNr (hCont (gb202) _ ⟨hHeld, (zK BK191.1), (zK BK192.1), (zK BK200.1), (zK BK202.1), GW202.1, GE202.1, NB191_202.1, NB202_191.1, NB192_202.1, NB202_192.1, NB200_202.1, NB202_200.1, zB1⟩)
 rintro gb202 w80 ⟨hS_, h0_, h1_, h2_, h3_, h4_, h5_, h6_, h7_, h8_, h9_, h10_, h11_, h12_⟩
 replace BK191 := zM h0_
 replace BK192 := zM h1_
 replace BK200 := zM h2_
 replace BK202 := zM h3_
 replace GW202 := zM h4_
 replace GE202 := zM h5_
 replace NB191_202 := zM h6_
 replace NB202_191 := zM h7_
 replace NB192_202 := zM h8_
 replace NB202_192 := zM h9_
 replace NB200_202 := zM h10_
 replace NB202_200 := zM h11_
 replace HB := zM h12_
 have hHeld := hS_
 refine zNp ?_
 refine zOn 9 none fun K hK => ?_
 obtain ⟨hs81, hfs81⟩ := zHs BK202.1 0
 have hns81_0 := NB191_202.1
 have hns81_1 := NB192_202.1
 have hns81_2 := NB200_202.1
 have hms81_0 := NB202_191.1
 have hms81_1 := NB202_192.1
 have hms81_2 := NB202_200.1
 obtain ⟨hs82, hfs82⟩ := zHs BK202.1 1
 have hns82_0 := NB191_202.1
 have hns82_1 := NB192_202.1
 have hns82_2 := NB200_202.1
 have hms82_0 := NB202_191.1
 have hms82_1 := NB202_192.1
 have hms82_2 := NB202_200.1
 obtain ⟨hs83, hfs83⟩ := zHs BK202.1 2
 have hns83_0 := NB191_202.1
 have hns83_1 := NB192_202.1
 have hns83_2 := NB200_202.1
 have hms83_0 := NB202_191.1
 have hms83_1 := NB202_192.1
 have hms83_2 := NB202_200.1
 obtain ⟨hs84, hfs84⟩ := zHs BK202.1 3
 have hns84_0 := NB191_202.1
 have hns84_1 := NB192_202.1
 have hns84_2 := NB200_202.1
 have hms84_0 := NB202_191.1
 have hms84_1 := NB202_192.1
 have hms84_2 := NB202_200.1
 obtain ⟨hs85, hfs85⟩ := zHs BK202.1 4
 have hns85_0 := NB191_202.1
 have hns85_1 := NB192_202.1
 have hns85_2 := NB200_202.1
 have hms85_0 := NB202_191.1
 have hms85_1 := NB202_192.1
 have hms85_2 := NB202_200.1
 refine skip_ (w1 := ?_) (by rfl) rfl ?_ ?_
 rotate_left
 ·go_simp
  rfl
 refine hK.out _ _ zCs fun hHeld => ?_
 clear hK K
 refine done_ (done_of HT_.1 (by kernel_rfl)) ?_
 have hnb86 := NB202_191.1
 have hnc86 := NB191_202.1
 have hnb87 := NB202_192.1
 have hnc87 := NB192_202.1
 have hnb88 := NB202_200.1
 have hnc88 := NB200_202.1
 have hcz89 := zc_5 (w := w80) BK202.1
 try go_wp2
 generalize hw_ : (((((w80.setCell ⟨gb202, 0, none⟩ (.int .i64 a2)).setCell ⟨gb202, 1, none⟩ (.int .i64 a1_1)).setCell ⟨gb202, 2, none⟩ (.int .i64 t201)).setCell ⟨gb202, 3, none⟩ (.int .i64 (-1))).setCell ⟨gb202, 4, none⟩ (.int .i64 (-1))) = w90
 have n0_ : Aside0 (w90.heap[gb191]? = some (.cells #[.slice A1_0 l1_0.length c1_0, .int .i64 a1_1, .int .i64 a1_2] 53 (0, 0))) := ⟨by rw [← hw_]; exact zPq⟩
 have n1_ : Aside0 (w90.heap[gb192]? = some (.cells #[.int .i64 0, .int .i64 0, .int .i64 0, .int .i64 0, .int .i64 0] 57 (0, 0))) := ⟨by rw [← hw_]; exact zPq⟩
 have n2_ : Aside0 (w90.heap[gb200]? = some (.cells #[.int .i64 t194, .int .i64 t195, .int .i64 t196, .int .i64 t197, .int .i64 t198] 109 (0, 0))) := ⟨by rw [← hw_]; exact zPq⟩
 have n3_ : Aside0 (w90.heap[gb202]? = some (.cells #[.int .i64 a2, .int .i64 a1_1, .int .i64 t201, .int .i64 (-1), .int .i64 (-1)] 57 (0, 0))) := ⟨by rw [← hw_]; exact zp5 (zK BK202.1)⟩
 have n4_ : Aside0 (Below w.heap.size w w90) := ⟨by rw [← hw_]; exact zB1⟩
 (try clear BK191)
 (try clear BK192)
 (try clear BK200)
 (try clear BK202)
 (try clear HB)
 clear hw_
 have BK191 := n0_
 have BK192 := n1_
 have BK200 := n2_
 have BK202 := n3_
 have HB := n4_
 clear n0_ n1_ n2_ n3_ n4_
 replace BK191 := zM (blk_drew BK191.1)
 replace BK192 := zM (blk_drew BK192.1)
 replace BK200 := zM (blk_drew BK200.1)
 replace BK202 := zM (blk_drew BK202.1)
 replace HB := zM (below_drew1 HB.1)
 obtain ⟨p203, q203, ad203, e203, hx203_0⟩ := zRd (Kd.at_int HR0.1 t201)
 have hw203_0 := hx203_0
 obtain rfl : ad193 = ad203 := (by injection e203)
 replace hx203_0 := zHx HB.1 hx203_0
 refine start_ (n := 13) (S := fun w' => w'.cell? ⟨gb191, 0, none⟩ = some (.slice A1_0 l1_0.length c1_0) ∧ w'.cell? ⟨gb191, 1, none⟩ = some (.int .i64 a1_1) ∧ w'.cell? ⟨gb191, 2, none⟩ = some (.int .i64 a1_2) ∧ w'.cell? ⟨gb200, 0, none⟩ = some (.int .i64 t194) ∧ w'.cell? ⟨gb200, 1, none⟩ = some (.int .i64 t195) ∧ w'.cell? ⟨gb200, 2, none⟩ = some (.int .i64 t196) ∧ w'.cell? ⟨gb200, 3, none⟩ = some (.int .i64 t197) ∧ w'.cell? ⟨gb200, 4, none⟩ = some (.int .i64 t198) ∧ w'.cell? ⟨gb202, 0, none⟩ = some (.int .i64 a2) ∧ w'.cell? ⟨gb202, 1, none⟩ = some (.int .i64 a1_1) ∧ w'.cell? ⟨gb202, 2, none⟩ = some (.int .i64 t201) ∧ w'.cell? ⟨gb202, 3, none⟩ = some (.int .i64 (-1)) ∧ w'.cell? ⟨gb202, 4, none⟩ = some (.int .i64 (-1)) ∧ w'.cell? (ad193.add (t201).toNat) = some (.int .i64 (rd l0 t201))) (ds := [12]) zq6_13 (by kernel_rfl) rfl rfl ⟨(blk_cell BK191.1 0).trans rfl, (blk_cell BK191.1 1).trans rfl, (blk_cell BK191.1 2).trans rfl, (blk_cell BK200.1 0).trans rfl, (blk_cell BK200.1 1).trans rfl, (blk_cell BK200.1 2).trans rfl, (blk_cell BK200.1 3).trans rfl, (blk_cell BK200.1 4).trans rfl, (blk_cell BK202.1 0).trans rfl, (blk_cell BK202.1 1).trans rfl, (blk_cell BK202.1 2).trans rfl, (blk_cell BK202.1 3).trans rfl, (blk_cell BK202.1 4).trans rfl, ((HB.1.cell (World.block_lt_of_cell? w _ hw203_0)).trans hw203_0)⟩ (fun hHeld => ?_); refine with_tabW impl_eventOf.tab5 impl_eventOf.bits5 (fun HT_ HW_ => ?_)
 generalize w90.drew = w91 at BK191 BK192 BK200 BK202 HB hx203_0 hHeld ⊢
 refine zPu 2 ?_
 refine zPu 3 ?_
 refine zTk14 0 hHeld ?_
 refine zTk14 1 hHeld ?_
 refine zTk14 4 hHeld ?_
 refine zPu 5 ?_
 refine zTk14 6 hHeld ?_
 refine zOn 7 (some 39) fun K hK => ?_
 refine zGs Try.func103 #[.agg #[.slice A1_0 l1_0.length c1_0, .int .i64 a1_1, .int .i64 a1_2], .agg #[.int .i64 t194, .int .i64 t195, .int .i64 t196, .int .i64 t197, .int .i64 t198], .int .i64 (rd l0 t201)] ?_
 with_reducible refine (impl_Work.calls k _ _ l1_0 a1_1 a1_2 t194 t195 t196 t197 t198 (rd l0 t201) t204 t207 t208 t209 _ ?side1 ?side2 A35.1).mono ?_
 (case side1 => exact zC (Kd.C_below HR1_0.1 HB.1))
 (case side2 => exact HC1_0.1)
 rintro e w92 ⟨v205, rfl, ho0, hb⟩
 refine ⟨_, rfl, ?_⟩
 have HO206 := zM (Kd.R_lower ho0 (below_size zB1))
 replace BK191 := zM (zb BK191.1 hb)
 replace BK192 := zM (zb BK192.1 hb)
 replace BK200 := zM (zb BK200.1 hb)
 replace BK202 := zM (zb BK202.1 hb)
 replace HB := zM (below_step zB1 hb)
 (try clear ho0)
 refine hK.out _ _ ⟨(blk_cell BK191.1 0).trans rfl, (blk_cell BK191.1 1).trans rfl, (blk_cell BK191.1 2).trans rfl, (blk_cell BK200.1 0).trans rfl, (blk_cell BK200.1 1).trans rfl, (blk_cell BK200.1 2).trans rfl, (blk_cell BK200.1 3).trans rfl, (blk_cell BK200.1 4).trans rfl, (blk_cell BK202.1 0).trans rfl, (blk_cell BK202.1 1).trans rfl, (blk_cell BK202.1 2).trans rfl, (blk_cell BK202.1 3).trans rfl, (blk_cell BK202.1 4).trans rfl, ((HB.1.cell (World.block_lt_of_cell? w _ hw203_0)).trans hw203_0)⟩ (fun hHeld => ?_)
 clear hK K
 refine zNo ?_
 refine zPu 8 ?_
 refine zPu 9 ?_
 refine zPu 10 ?_
 refine zPu 11 ?_
 refine last_ (i := 12) (N := none) zq6_26 rfl rfl (one_of HT_.1 (by kernel_rfl)) (by decide) (fun K hK => ?_)
 obtain ⟨hs93, hfs93⟩ := zHs BK202.1 4
 have hns93_0 := NB191_202.1
 have hns93_1 := NB192_202.1
 have hns93_2 := NB200_202.1
 have hms93_0 := NB202_191.1
 have hms93_1 := NB202_192.1
 have hms93_2 := NB202_200.1
 refine skip_ (w1 := ?_) (by rfl) rfl ?_ ?_
 rotate_left
 ·go_simp
  rfl
 refine hK.out _ _ ?_
 clear hK K
 refine done_ (done_of HT_.1 (by kernel_rfl)) ?_
 have hcz94 := zc_5 (w := w92) BK200.1
 have hcz95 := zc_5 (w := w92) BK202.1
 obtain ⟨p210, q210, ad210, e210, hx210_0⟩ := zRd (Kd.at_int HR0.1 t201)
 obtain rfl : ad193 = ad210 := (by injection e210)
 have hn210_0 : ad193.block ≠ gb202 := Nat.ne_of_lt (Nat.lt_of_lt_of_le (by have := World.block_lt_of_cell? _ _ hx210_0; first | rwa [add_block] at this | exact this) GW202.1)
 replace hx210_0 := zHx HB.1 hx210_0
 replace hx210_0 := (cell_far (p := ⟨gb202, 4, none⟩) (by first | (rw [add_block]; exact hn210_0) | (show (Addr.add _ _).block ≠ _; rw [add_block]; exact hn210_0) | exact hn210_0) (.int .i64 t209)).trans hx210_0
 clear hn210_0
 have hcz96 := zc_5 (w := w92) BK192.1
 try go_wp2
 refine bodyPost_ret (results_cell_row rfl _ _ gb192 57 #[.int .i64 a2, .int .i64 a1_1, .int .i64 t201, .int .i64 (rd l0 t201), .int .i64 t209] (0, 0) _ rfl zPq Try.underlying57 rfl (by kernel_rfl)) rfl ?_
 exact ⟨zE, zB1⟩

end Go.Proofs.Ytpcgecacaemalaa.PFnExactRunTo
