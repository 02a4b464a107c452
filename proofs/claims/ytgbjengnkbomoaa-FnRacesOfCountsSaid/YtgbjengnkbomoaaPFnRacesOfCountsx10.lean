-- made by wip/tools/myprint.py out of the seat's translation
import Derived.Test.YtgbjengnkbomoaaPFnRacesOfCountsx0
import Derived.Test.YtgbjengnkbomoaaPFnRacesOfCountsx8
import Derived.Test.YtgbjengnkbomoaaPFnRacesOfCountsx9
namespace Go.Proofs.Ytgbjengnkbomoaa.PFnRacesOfCounts
open Go.RowKit Go.Proofs.YtgbjengnkbomoaaW.PrintWords Go.Proofs.YtgbjengnkbomoaaW.PrintLast Go.Proofs.YtgbjengnkbomoaaW.PrintMore
attribute [local go_sem] max2_int min2_int max_two min_two max_three min_three max_four min_four   -- for this text's walks alone
set_option linter.unusedVariables false
set_option linter.unusedSimpArgs false
set_option maxHeartbeats 8000000
set_option maxRecDepth 100000
abbrev zq10_0 : Array Bool := #[false, false, false, false, false, false, false, false, false, false]
abbrev zq10_7 : Array Bool := #[true, true, true, true, true, true, true, true, true, false]
abbrev zq10_8 : Array Bool := #[true, true, true, true, true, true, true, false, false, false]
abbrev zq10_9 : Array Bool := #[true, true, true, true, true, true, false, false, true, false]
abbrev zq10_13 : Array Bool := #[false, false, false, false, false, false, false, false, false, false, false, false, false]
abbrev zq10_26 : Array Bool := #[true, true, true, true, true, true, true, true, true, true, true, true, true]

/-! ### impl_eventOf: function 54 -/
def impl_eventOf.f (k : Nat) (l0 : List Int) (l1_0 : List Int) (a1_1 : Int) (a1_2 : Int) (a2 : Int) : Option (Int × Int × Int × Int × Int) := if 0 ≤ a1_1 then (if a1_1 < (l0.length : Int) then ((impl_Decode.f (rd l0 a1_1)).bind fun bt302 => ((impl_Target.f bt302.1 bt302.2.1 bt302.2.2.1 bt302.2.2.2.1 bt302.2.2.2.2.1 l1_0).bind fun t309 => (if t309 < 0 then (some (a2, a1_1, t309, (-1), (-1))) else (if 0 ≤ t309 then (if t309 < (l0.length : Int) then ((impl_Work.f k l1_0 a1_1 a1_2 bt302.1 bt302.2.1 bt302.2.2.1 bt302.2.2.2.1 bt302.2.2.2.2.1 (rd l0 t309)).bind fun bt312 => (if bt302.1 = 5 then (some (a2, a1_1, t309, (-1), bt312.2.2.2)) else (some (a2, a1_1, t309, rd l0 t309, bt312.2.2.2)))) else (none)) else (none))))) else (none)) else (none)
theorem impl_eventOf.mono : ∀ a0 a1 a2 a3 a4 k, LeO (impl_eventOf.f k a0 a1 a2 a3 a4) (impl_eventOf.f (k + 1) a0 a1 a2 a3 a4) := by
 intro a0 a1 a2 a3 a4 k
 unfold impl_eventOf.f
 have mo0 := @impl_Work.mono
 exact zL
def impl_eventOf.T2 : Bool × List (List Nat × List Nat) := (true, [([], []), ([], []), ([1], [1]), ([], []), ([], []), ([4], [4]), ([3, 5], [3, 5]), ([0, 2, 6], [0, 2, 6]), ([], []), ([8, 7, 6, 0, 1, 2, 3, 4, 5, 6, 7, 8], [7, 8])])
def impl_eventOf.B2 : List Nat := [0, 0, 2, 0, 0, 16, 56, 127, 0, 511]
theorem impl_eventOf.tab2 : rtab .any (opsOf Try.f54 2) = impl_eventOf.T2 := by kernel_rfl
theorem impl_eventOf.bits2 : waitsOk impl_eventOf.T2.2 impl_eventOf.B2 = true := by kernel_rfl
def impl_eventOf.T5 : Bool × List (List Nat × List Nat) := (true, [([], []), ([], []), ([], []), ([], []), ([3], [3]), ([2, 4], [2, 4]), ([5], [5]), ([0, 1, 6], [0, 1, 6]), ([7], [7]), ([8], [8]), ([8], [8]), ([0, 1, 2, 3, 4, 5, 6, 7, 8, 9, 10], []), ([11, 10, 7, 0, 1, 2, 3, 4, 5, 6, 7, 8, 9, 10], [10, 11])])
def impl_eventOf.B5 : List Nat := [0, 0, 0, 0, 8, 28, 60, 127, 255, 511, 511, 2047, 4095]
theorem impl_eventOf.tab5 : rtab .any (opsOf Try.f54 5) = impl_eventOf.T5 := by kernel_rfl
theorem impl_eventOf.bits5 : waitsOk impl_eventOf.T5.2 impl_eventOf.B5 = true := by kernel_rfl
theorem impl_eventOf.calls (k : Nat) (A0 : Option Addr) (c0 : Nat) (l0 : List Int) (A1_0 : Option Addr) (c1_0 : Nat) (l1_0 : List Int) (a1_1 : Int) (a1_2 : Int) (a2 : Int) (r1 : Int) (r2 : Int) (r3 : Int) (r4 : Int) (r5 : Int) (w : World) (hr0 : Kd.C (Kd.int .i64) w A0 l0.length l0) (hc0 : l0.length ≤ c0) (hr1_0 : Kd.C (Kd.int .i64) w A1_0 l1_0.length l1_0) (hc1_0 : l1_0.length ≤ c1_0) (h : impl_eventOf.f k l0 l1_0 a1_1 a1_2 a2 = some (r1, r2, r3, r4, r5)) :
  Calls Try.prog 54 #[.slice A0 l0.length c0, .agg #[.slice A1_0 l1_0.length c1_0, .int .i64 a1_1, .int .i64 a1_2], .int .i64 a2] w fun e w' => e = .returned (.agg #[.int .i64 r1, .int .i64 r2, .int .i64 r3, .int .i64 r4, .int .i64 r5]) ∧ Below w.heap.size w w' := by
 have hu49 := Try.underlying49
 have hu31 := Try.underlying31
 have hu71 := Try.underlying71
 have HR0 := zM hr0
 have HC0 := zM hc0
 clear hr0 hc0
 have HR1_0 := zM hr1_0
 have HC1_0 := zM hc1_0
 clear hr1_0 hc1_0
 have HB := zM (Below.refl w.heap.size w)
 unfold impl_eventOf.f at h
 have H := h
 clear h
 replace H := zIt H
 obtain ⟨c4b0, H⟩ := H
 replace H := zIt H
 obtain ⟨c5b0, H⟩ := H
 replace H := zO H
 obtain ⟨⟨t302, t303, t304, t305, t306, t307⟩, A6, H⟩ := H
 try dsimp only at H
 replace H := zO H
 obtain ⟨t309, A7, H⟩ := H
 by_cases c8 : t309 < 0
 ·rw [if_pos c8] at H
  have c8b0 := decide_eq_true c8
  clear c8
  simp only [Option.some.injEq, Prod.mk.injEq] at H
  obtain ⟨rfl, rfl, rfl, rfl, rfl⟩ := H
  go_enter Try.func54, Try.ntmps54
  try go_wp2_with (first | ((with_reducible refine zBx 4 49 #[.slice A1_0 l1_0.length c1_0, .int .i64 a1_1, .int .i64 a1_2] ?_); intro gb299 hg w9 hbox hb; have BK299 := zM hbox; have GW299 := zM (zW hg (below_size zB1)); have GE299 := zM (zW hg (below_size zB1)); replace HB := zM (below_step zB1 hb); clear hb hbox hg) | ((with_reducible refine zBx 6 31 #[.int .i64 0, .int .i64 0, .int .i64 0, .int .i64 0, .int .i64 0] ?_); intro gb300 hg w10 hbox hb; have BK300 := zM hbox; have GW300 := zM (zW hg (below_size zB1)); have GE300 := zM (zW hg (below_size zB1)); replace HB := zM (below_step zB1 hb); have NB299_300 := zM ((zn BK299.1 hg : gb299 ≠ gb300)); have NB300_299 := zM ((zm BK299.1 hg : gb300 ≠ gb299)); replace BK299 := zM (zb BK299.1 hb); clear hb hbox hg; have hnb11 := NB299_300.1; have hnc11 := NB300_299.1; have hcz12 := zc_3 (w := w10) BK299.1; have p301 : 0 ≤ (a1_1 : Int) := zA; have q301 : a1_1 < (l0.length : Int) := zA; obtain ⟨ad301, e301, hx301_0⟩ := Kd.at_int HR0.1 a1_1 p301 q301; cases e301; replace hx301_0 := (HB.1.cell (World.block_lt_of_cell? w _ hx301_0)).trans hx301_0; replace p301 := eq_true p301; replace q301 := eq_true q301) | ((with_reducible refine zG Try.func72 16 #[.int .i64 (rd l0 a1_1)] ?_); (with_reducible refine (impl_Decode.calls (rd l0 a1_1) t302 t303 t304 t305 t306 t307 _ A6.1).mono ?_); rintro e w13 ⟨rfl, hb⟩; refine ⟨_, rfl, ?_⟩; replace BK299 := zM (zb BK299.1 hb); replace BK300 := zM (zb BK300.1 hb); replace HB := zM (below_step zB1 hb); clear hb) | ((with_reducible refine zBx 7 71 #[.int .i64 0, .int .i64 0, .int .i64 0, .int .i64 0, .int .i64 0] ?_); intro gb308 hg w14 hbox hb; have BK308 := zM hbox; have GW308 := zM (zW hg (below_size zB1)); have GE308 := zM (zW hg (below_size zB1)); replace HB := zM (below_step zB1 hb); have NB299_308 := zM ((zn BK299.1 hg : gb299 ≠ gb308)); have NB308_299 := zM ((zm BK299.1 hg : gb308 ≠ gb299)); replace BK299 := zM (zb BK299.1 hb); have NB300_308 := zM ((zn BK300.1 hg : gb300 ≠ gb308)); have NB308_300 := zM ((zm BK300.1 hg : gb308 ≠ gb300)); replace BK300 := zM (zb BK300.1 hb); clear hb hbox hg; have hnb15 := NB308_299.1; have hnc15 := NB299_308.1; have hnb16 := NB308_300.1; have hnc16 := NB300_308.1; have hcz17 := zc_5 (w := w14) BK308.1))
  have n0_ : Aside0 ((((((w14.setCell ⟨gb308, 0, none⟩ (.int .i64 t302)).setCell ⟨gb308, 1, none⟩ (.int .i64 t303)).setCell ⟨gb308, 2, none⟩ (.int .i64 t304)).setCell ⟨gb308, 3, none⟩ (.int .i64 t305)).setCell ⟨gb308, 4, none⟩ (.int .i64 t306)).heap[gb299]? = some (.cells #[.slice A1_0 l1_0.length c1_0, .int .i64 a1_1, .int .i64 a1_2] 49 (0, 0))) := ⟨zPq⟩
  have n1_ : Aside0 ((((((w14.setCell ⟨gb308, 0, none⟩ (.int .i64 t302)).setCell ⟨gb308, 1, none⟩ (.int .i64 t303)).setCell ⟨gb308, 2, none⟩ (.int .i64 t304)).setCell ⟨gb308, 3, none⟩ (.int .i64 t305)).setCell ⟨gb308, 4, none⟩ (.int .i64 t306)).heap[gb300]? = some (.cells #[.int .i64 0, .int .i64 0, .int .i64 0, .int .i64 0, .int .i64 0] 31 (0, 0))) := ⟨zPq⟩
  have n2_ : Aside0 ((((((w14.setCell ⟨gb308, 0, none⟩ (.int .i64 t302)).setCell ⟨gb308, 1, none⟩ (.int .i64 t303)).setCell ⟨gb308, 2, none⟩ (.int .i64 t304)).setCell ⟨gb308, 3, none⟩ (.int .i64 t305)).setCell ⟨gb308, 4, none⟩ (.int .i64 t306)).heap[gb308]? = some (.cells #[.int .i64 t302, .int .i64 t303, .int .i64 t304, .int .i64 t305, .int .i64 t306] 71 (0, 0))) := ⟨by exact zp5 (zK BK308.1)⟩
  have n3_ : Aside0 (Below w.heap.size w (((((w14.setCell ⟨gb308, 0, none⟩ (.int .i64 t302)).setCell ⟨gb308, 1, none⟩ (.int .i64 t303)).setCell ⟨gb308, 2, none⟩ (.int .i64 t304)).setCell ⟨gb308, 3, none⟩ (.int .i64 t305)).setCell ⟨gb308, 4, none⟩ (.int .i64 t306))) := ⟨zB1⟩
  (try clear BK299)
  (try clear BK300)
  (try clear BK308)
  (try clear HB)
  generalize (((((w14.setCell ⟨gb308, 0, none⟩ (.int .i64 t302)).setCell ⟨gb308, 1, none⟩ (.int .i64 t303)).setCell ⟨gb308, 2, none⟩ (.int .i64 t304)).setCell ⟨gb308, 3, none⟩ (.int .i64 t305)).setCell ⟨gb308, 4, none⟩ (.int .i64 t306)) = w18 at n0_ n1_ n2_ n3_ ⊢
  have BK299 := n0_
  have BK300 := n1_
  have BK308 := n2_
  have HB := n3_
  clear n0_ n1_ n2_ n3_
  replace BK299 := zM (blk_drew BK299.1)
  replace BK300 := zM (blk_drew BK300.1)
  replace BK308 := zM (blk_drew BK308.1)
  replace HB := zM (below_drew1 HB.1)
  refine start_ (n := 10) (S := fun w' => w'.cell? ⟨gb299, 0, none⟩ = some (.slice A1_0 l1_0.length c1_0) ∧ w'.cell? ⟨gb299, 1, none⟩ = some (.int .i64 a1_1) ∧ w'.cell? ⟨gb299, 2, none⟩ = some (.int .i64 a1_2) ∧ w'.cell? ⟨gb308, 0, none⟩ = some (.int .i64 t302) ∧ w'.cell? ⟨gb308, 1, none⟩ = some (.int .i64 t303) ∧ w'.cell? ⟨gb308, 2, none⟩ = some (.int .i64 t304) ∧ w'.cell? ⟨gb308, 3, none⟩ = some (.int .i64 t305) ∧ w'.cell? ⟨gb308, 4, none⟩ = some (.int .i64 t306)) (ds := []) zq10_0 (by kernel_rfl) rfl rfl ⟨(blk_cell BK299.1 0).trans rfl, (blk_cell BK299.1 1).trans rfl, (blk_cell BK299.1 2).trans rfl, (blk_cell BK308.1 0).trans rfl, (blk_cell BK308.1 1).trans rfl, (blk_cell BK308.1 2).trans rfl, (blk_cell BK308.1 3).trans rfl, (blk_cell BK308.1 4).trans rfl⟩ (fun hHeld => ?_); refine with_tabW impl_eventOf.tab2 impl_eventOf.bits2 (fun HT_ HW_ => ?_)
  generalize w18.drew = w19 at BK299 BK300 BK308 HB hHeld ⊢
  refine zPu 0 ?_
  refine zPu 1 ?_
  refine zPu 4 ?_
  refine zTk8 2 hHeld ?_
  refine zTk8 3 hHeld ?_
  refine zTk8 5 hHeld ?_
  refine join_ (σ := Nat) 1 zq10_7 (fun s_ => [(25, .int .i64 t309), (9, .pointer (some ⟨s_, 0, none⟩)), (26, .agg #[.int .i64 a2, .int .i64 a1_1, .int .i64 t309, .int .i64 (-1), .int .i64 (-1)])]) (fun s_ w' => (w'.cell? ⟨gb299, 0, none⟩ = some (.slice A1_0 l1_0.length c1_0) ∧ w'.cell? ⟨gb299, 1, none⟩ = some (.int .i64 a1_1) ∧ w'.cell? ⟨gb299, 2, none⟩ = some (.int .i64 a1_2) ∧ w'.cell? ⟨gb308, 0, none⟩ = some (.int .i64 t302) ∧ w'.cell? ⟨gb308, 1, none⟩ = some (.int .i64 t303) ∧ w'.cell? ⟨gb308, 2, none⟩ = some (.int .i64 t304) ∧ w'.cell? ⟨gb308, 3, none⟩ = some (.int .i64 t305) ∧ w'.cell? ⟨gb308, 4, none⟩ = some (.int .i64 t306)) ∧ (w'.heap[gb299]? = some (.cells #[.slice A1_0 l1_0.length c1_0, .int .i64 a1_1, .int .i64 a1_2] 49 (0, 0))) ∧ (w'.heap[gb300]? = some (.cells #[.int .i64 0, .int .i64 0, .int .i64 0, .int .i64 0, .int .i64 0] 31 (0, 0))) ∧ (w'.heap[gb308]? = some (.cells #[.int .i64 t302, .int .i64 t303, .int .i64 t304, .int .i64 t305, .int .i64 t306] 71 (0, 0))) ∧ (w'.heap[s_]? = some (.cells #[.int .i64 0, .int .i64 0, .int .i64 0, .int .i64 0, .int .i64 0] 31 (0, 0))) ∧ (w.heap.size ≤ s_) ∧ (w.heap.size ≤ s_) ∧ (gb299 ≠ s_) ∧ (s_ ≠ gb299) ∧ (gb300 ≠ s_) ∧ (s_ ≠ gb300) ∧ (gb308 ≠ s_) ∧ (s_ ≠ gb308) ∧ (Below w.heap.size w w')) ?_ ?_
  rotate_left
  ·intro hCont
   refine two_ (i := 6) (j := 8) (Ni := some 25) (Nj := some 9) zq10_8 zq10_9 rfl rfl rfl rfl (two_of HT_.1 (by kernel_rfl)) (by decide) (by decide) (fun K hK => ?_) (fun K hK => ?_)
   ·refine zGs Try.func73 #[.agg #[.int .i64 t302, .int .i64 t303, .int .i64 t304, .int .i64 t305, .int .i64 t306], .slice A1_0 l1_0.length c1_0] ?_
    with_reducible refine (impl_Target.calls t302 t303 t304 t305 t306 _ _ l1_0 t309 _ ?side1 ?side2 A7.1).mono ?_
    (case side1 => exact zC (Kd.C_below HR1_0.1 HB.1))
    (case side2 => exact HC1_0.1)
    rintro e w20 ⟨rfl, hb⟩
    refine ⟨_, rfl, ?_⟩
    replace BK299 := zM (zb BK299.1 hb)
    replace BK300 := zM (zb BK300.1 hb)
    replace BK308 := zM (zb BK308.1 hb)
    replace HB := zM (below_step zB1 hb)
    refine hK.out _ _ zCs fun hHeld => ?_
    clear hK K
    refine zNo ?_
    refine zPu 7 ?_
    refine zOn 8 (some 9) fun K hK => ?_
    refine zBs 9 31 #[.int .i64 0, .int .i64 0, .int .i64 0, .int .i64 0, .int .i64 0] ?_
    intro gb310 hg w21 hbox hb
    replace BK310 := zM hbox
    replace GW310 := zM (zW hg (below_size zB1))
    replace GE310 := zM (zW hg (below_size zB1))
    replace HB := zM (below_step zB1 hb)
    replace NB299_310 := zM ((zn BK299.1 hg : gb299 ≠ gb310))
    replace NB310_299 := zM ((zm BK299.1 hg : gb310 ≠ gb299))
    replace BK299 := zM (zb BK299.1 hb)
    replace NB300_310 := zM ((zn BK300.1 hg : gb300 ≠ gb310))
    replace NB310_300 := zM ((zm BK300.1 hg : gb310 ≠ gb300))
    replace BK300 := zM (zb BK300.1 hb)
    replace NB308_310 := zM ((zn BK308.1 hg : gb308 ≠ gb310))
    replace NB310_308 := zM ((zm BK308.1 hg : gb310 ≠ gb308))
    replace BK308 := zM (zb BK308.1 hb)
    refine hK.out _ _ zCs fun hHeld => ?_
    clear hK K
    refine zNo ?_
    exact norm_ zNr (hCont (gb310) _ ⟨hHeld, (zK BK299.1), (zK BK300.1), (zK BK308.1), (zK BK310.1), GW310.1, GE310.1, NB299_310.1, NB310_299.1, NB300_310.1, NB310_300.1, NB308_310.1, NB310_308.1, zB1⟩)
   ·refine zBs 9 31 #[.int .i64 0, .int .i64 0, .int .i64 0, .int .i64 0, .int .i64 0] ?_
    intro gb310 hg w20 hbox hb
    replace BK310 := zM hbox
    replace GW310 := zM (zW hg (below_size zB1))
    replace GE310 := zM (zW hg (below_size zB1))
    replace HB := zM (below_step zB1 hb)
    replace NB299_310 := zM ((zn BK299.1 hg : gb299 ≠ gb310))
    replace NB310_299 := zM ((zm BK299.1 hg : gb310 ≠ gb299))
    replace BK299 := zM (zb BK299.1 hb)
    replace NB300_310 := zM ((zn BK300.1 hg : gb300 ≠ gb310))
    replace NB310_300 := zM ((zm BK300.1 hg : gb310 ≠ gb300))
    replace BK300 := zM (zb BK300.1 hb)
    replace NB308_310 := zM ((zn BK308.1 hg : gb308 ≠ gb310))
    replace NB310_308 := zM ((zm BK308.1 hg : gb310 ≠ gb308))
    replace BK308 := zM (zb BK308.1 hb)
    refine hK.out _ _ zCs fun hHeld => ?_
    clear hK K
    refine zNo ?_
    refine zOn 6 (some 25) fun K hK => ?_
    refine zGs Try.func73 #[.agg #[.int .i64 t302, .int .i64 t303, .int .i64 t304, .int .i64 t305, .int .i64 t306], .slice A1_0 l1_0.length c1_0] ?_
    with_reducible refine (impl_Target.calls t302 t303 t304 t305 t306 _ _ l1_0 t309 _ ?side1 ?side2 A7.1).mono ?_
    (case side1 => exact zC (Kd.C_below HR1_0.1 HB.1))
    (case side2 => exact HC1_0.1)
    rintro e w21 ⟨rfl, hb⟩
    refine ⟨_, rfl, ?_⟩
    replace BK299 := zM (zb BK299.1 hb)
    replace BK300 := zM (zb BK300.1 hb)
    replace BK308 := zM (zb BK308.1 hb)
    replace BK310 := zM (zb BK310.1 hb)
    replace HB := zM (below_step zB1 hb)
    refine hK.out _ _ zCs fun hHeld => ?_
    clear hK K
    refine zNo ?_
    refine zPu 7 ?_
    exact norm_ zNr (hCont (gb310) _ ⟨hHeld, (zK BK299.1), (zK BK300.1), (zK BK308.1), (zK BK310.1), GW310.1, GE310.1, NB299_310.1, NB310_299.1, NB300_310.1, NB310_300.1, NB308_310.1, NB310_308.1, zB1⟩)
  rintro gb310 w22 ⟨hS_, h0_, h1_, h2_, h3_, h4_, h5_, h6_, h7_, h8_, h9_, h10_, h11_, h12_⟩
  replace BK299 := zM h0_
  replace BK300 := zM h1_
  replace BK308 := zM h2_
  replace BK310 := zM h3_
  replace GW310 := zM h4_
  replace GE310 := zM h5_
  replace NB299_310 := zM h6_
  replace NB310_299 := zM h7_
  replace NB300_310 := zM h8_
  replace NB310_300 := zM h9_
  replace NB308_310 := zM h10_
  replace NB310_308 := zM h11_
  replace HB := zM h12_
  have hHeld : w22.cell? ⟨gb299, 0, none⟩ = some (.slice A1_0 l1_0.length c1_0) ∧ w22.cell? ⟨gb299, 1, none⟩ = some (.int .i64 a1_1) ∧ w22.cell? ⟨gb299, 2, none⟩ = some (.int .i64 a1_2) ∧ w22.cell? ⟨gb308, 0, none⟩ = some (.int .i64 t302) ∧ w22.cell? ⟨gb308, 1, none⟩ = some (.int .i64 t303) ∧ w22.cell? ⟨gb308, 2, none⟩ = some (.int .i64 t304) ∧ w22.cell? ⟨gb308, 3, none⟩ = some (.int .i64 t305) ∧ w22.cell? ⟨gb308, 4, none⟩ = some (.int .i64 t306) := hS_
  refine zNp ?_
  refine zOn 9 none fun K hK => ?_
  obtain ⟨hs23, hfs23⟩ := zHs BK310.1 0
  have hns23_0 := NB299_310.1
  have hns23_1 := NB300_310.1
  have hns23_2 := NB308_310.1
  have hms23_0 := NB310_299.1
  have hms23_1 := NB310_300.1
  have hms23_2 := NB310_308.1
  obtain ⟨hs24, hfs24⟩ := zHs BK310.1 1
  have hns24_0 := NB299_310.1
  have hns24_1 := NB300_310.1
  have hns24_2 := NB308_310.1
  have hms24_0 := NB310_299.1
  have hms24_1 := NB310_300.1
  have hms24_2 := NB310_308.1
  obtain ⟨hs25, hfs25⟩ := zHs BK310.1 2
  have hns25_0 := NB299_310.1
  have hns25_1 := NB300_310.1
  have hns25_2 := NB308_310.1
  have hms25_0 := NB310_299.1
  have hms25_1 := NB310_300.1
  have hms25_2 := NB310_308.1
  obtain ⟨hs26, hfs26⟩ := zHs BK310.1 3
  have hns26_0 := NB299_310.1
  have hns26_1 := NB300_310.1
  have hns26_2 := NB308_310.1
  have hms26_0 := NB310_299.1
  have hms26_1 := NB310_300.1
  have hms26_2 := NB310_308.1
  obtain ⟨hs27, hfs27⟩ := zHs BK310.1 4
  have hns27_0 := NB299_310.1
  have hns27_1 := NB300_310.1
  have hns27_2 := NB308_310.1
  have hms27_0 := NB310_299.1
  have hms27_1 := NB310_300.1
  have hms27_2 := NB310_308.1
  refine skip_ (w1 := ?_) (by rfl) rfl ?_ ?_
  rotate_left
  ·go_simp
   rfl
  refine hK.out _ _ zCs fun hHeld => ?_
  clear hK K
  refine done_ (done_of HT_.1 (by kernel_rfl)) ?_
  have hnb28 := NB310_299.1
  have hnc28 := NB299_310.1
  have hnb29 := NB310_300.1
  have hnc29 := NB300_310.1
  have hnb30 := NB310_308.1
  have hnc30 := NB308_310.1
  have hcz31 := zc_5 (w := w22) BK310.1
  have hcz32 := zc_5 (w := w22) BK300.1
  try go_wp2
  refine bodyPost_ret (results_cell_row rfl _ _ gb300 31 #[.int .i64 a2, .int .i64 a1_1, .int .i64 t309, .int .i64 (-1), .int .i64 (-1)] (0, 0) _ rfl zPq Try.underlying31 rfl (by kernel_rfl)) rfl ?_
  exact ⟨zE, zB1⟩
 rw [if_neg c8] at H
 have c8b0 := decide_eq_false c8
 clear c8
 replace H := zIt H
 obtain ⟨c33b0, H⟩ := H
 replace H := zIt H
 obtain ⟨c34b0, H⟩ := H
 replace H := zO H
 obtain ⟨⟨t312, t315, t316, t317⟩, A35, H⟩ := H
 try dsimp only at H
 by_cases c36 : t302 = 5
 ·rw [if_pos c36] at H
  have c36b0 : (t302 == 5) = true := beq_iff_eq.mpr c36
  have c36b1 : (t302 != 5) = false := bne_eq_false_iff_eq.mpr c36
  clear c36
  simp only [Option.some.injEq, Prod.mk.injEq] at H
  obtain ⟨rfl, rfl, rfl, rfl, rfl⟩ := H
  go_enter Try.func54, Try.ntmps54
  try go_wp2_with (first | ((with_reducible refine zBx 4 49 #[.slice A1_0 l1_0.length c1_0, .int .i64 a1_1, .int .i64 a1_2] ?_); intro gb299 hg w37 hbox hb; have BK299 := zM hbox; have GW299 := zM (zW hg (below_size zB1)); have GE299 := zM (zW hg (below_size zB1)); replace HB := zM (below_step zB1 hb); clear hb hbox hg) | ((with_reducible refine zBx 6 31 #[.int .i64 0, .int .i64 0, .int .i64 0, .int .i64 0, .int .i64 0] ?_); intro gb300 hg w38 hbox hb; have BK300 := zM hbox; have GW300 := zM (zW hg (below_size zB1)); have GE300 := zM (zW hg (below_size zB1)); replace HB := zM (below_step zB1 hb); have NB299_300 := zM ((zn BK299.1 hg : gb299 ≠ gb300)); have NB300_299 := zM ((zm BK299.1 hg : gb300 ≠ gb299)); replace BK299 := zM (zb BK299.1 hb); clear hb hbox hg; have hnb39 := NB299_300.1; have hnc39 := NB300_299.1; have hcz40 := zc_3 (w := w38) BK299.1; have p301 : 0 ≤ (a1_1 : Int) := zA; have q301 : a1_1 < (l0.length : Int) := zA; obtain ⟨ad301, e301, hx301_0⟩ := Kd.at_int HR0.1 a1_1 p301 q301; cases e301; replace hx301_0 := (HB.1.cell (World.block_lt_of_cell? w _ hx301_0)).trans hx301_0; replace p301 := eq_true p301; replace q301 := eq_true q301) | ((with_reducible refine zG Try.func72 16 #[.int .i64 (rd l0 a1_1)] ?_); (with_reducible refine (impl_Decode.calls (rd l0 a1_1) t302 t303 t304 t305 t306 t307 _ A6.1).mono ?_); rintro e w41 ⟨rfl, hb⟩; refine ⟨_, rfl, ?_⟩; replace BK299 := zM (zb BK299.1 hb); replace BK300 := zM (zb BK300.1 hb); replace HB := zM (below_step zB1 hb); clear hb) | ((with_reducible refine zBx 7 71 #[.int .i64 0, .int .i64 0, .int .i64 0, .int .i64 0, .int .i64 0] ?_); intro gb308 hg w42 hbox hb; have BK308 := zM hbox; have GW308 := zM (zW hg (below_size zB1)); have GE308 := zM (zW hg (below_size zB1)); replace HB := zM (below_step zB1 hb); have NB299_308 := zM ((zn BK299.1 hg : gb299 ≠ gb308)); have NB308_299 := zM ((zm BK299.1 hg : gb308 ≠ gb299)); replace BK299 := zM (zb BK299.1 hb); have NB300_308 := zM ((zn BK300.1 hg : gb300 ≠ gb308)); have NB308_300 := zM ((zm BK300.1 hg : gb308 ≠ gb300)); replace BK300 := zM (zb BK300.1 hb); clear hb hbox hg; have hnb43 := NB308_299.1; have hnc43 := NB299_308.1; have hnb44 := NB308_300.1; have hnc44 := NB300_308.1; have hcz45 := zc_5 (w := w42) BK308.1))
  have n0_ : Aside0 ((((((w42.setCell ⟨gb308, 0, none⟩ (.int .i64 t302)).setCell ⟨gb308, 1, none⟩ (.int .i64 t303)).setCell ⟨gb308, 2, none⟩ (.int .i64 t304)).setCell ⟨gb308, 3, none⟩ (.int .i64 t305)).setCell ⟨gb308, 4, none⟩ (.int .i64 t306)).heap[gb299]? = some (.cells #[.slice A1_0 l1_0.length c1_0, .int .i64 a1_1, .int .i64 a1_2] 49 (0, 0))) := ⟨zPq⟩
  have n1_ : Aside0 ((((((w42.setCell ⟨gb308, 0, none⟩ (.int .i64 t302)).setCell ⟨gb308, 1, none⟩ (.int .i64 t303)).setCell ⟨gb308, 2, none⟩ (.int .i64 t304)).setCell ⟨gb308, 3, none⟩ (.int .i64 t305)).setCell ⟨gb308, 4, none⟩ (.int .i64 t306)).heap[gb300]? = some (.cells #[.int .i64 0, .int .i64 0, .int .i64 0, .int .i64 0, .int .i64 0] 31 (0, 0))) := ⟨zPq⟩
  have n2_ : Aside0 ((((((w42.setCell ⟨gb308, 0, none⟩ (.int .i64 t302)).setCell ⟨gb308, 1, none⟩ (.int .i64 t303)).setCell ⟨gb308, 2, none⟩ (.int .i64 t304)).setCell ⟨gb308, 3, none⟩ (.int .i64 t305)).setCell ⟨gb308, 4, none⟩ (.int .i64 t306)).heap[gb308]? = some (.cells #[.int .i64 t302, .int .i64 t303, .int .i64 t304, .int .i64 t305, .int .i64 t306] 71 (0, 0))) := ⟨by exact zp5 (zK BK308.1)⟩
  have n3_ : Aside0 (Below w.heap.size w (((((w42.setCell ⟨gb308, 0, none⟩ (.int .i64 t302)).setCell ⟨gb308, 1, none⟩ (.int .i64 t303)).setCell ⟨gb308, 2, none⟩ (.int .i64 t304)).setCell ⟨gb308, 3, none⟩ (.int .i64 t305)).setCell ⟨gb308, 4, none⟩ (.int .i64 t306))) := ⟨zB1⟩
  (try clear BK299)
  (try clear BK300)
  (try clear BK308)
  (try clear HB)
  generalize (((((w42.setCell ⟨gb308, 0, none⟩ (.int .i64 t302)).setCell ⟨gb308, 1, none⟩ (.int .i64 t303)).setCell ⟨gb308, 2, none⟩ (.int .i64 t304)).setCell ⟨gb308, 3, none⟩ (.int .i64 t305)).setCell ⟨gb308, 4, none⟩ (.int .i64 t306)) = w46 at n0_ n1_ n2_ n3_ ⊢
  have BK299 := n0_
  have BK300 := n1_
  have BK308 := n2_
  have HB := n3_
  clear n0_ n1_ n2_ n3_
  replace BK299 := zM (blk_drew BK299.1)
  replace BK300 := zM (blk_drew BK300.1)
  replace BK308 := zM (blk_drew BK308.1)
  replace HB := zM (below_drew1 HB.1)
  refine start_ (n := 10) (S := fun w' => w'.cell? ⟨gb299, 0, none⟩ = some (.slice A1_0 l1_0.length c1_0) ∧ w'.cell? ⟨gb299, 1, none⟩ = some (.int .i64 a1_1) ∧ w'.cell? ⟨gb299, 2, none⟩ = some (.int .i64 a1_2) ∧ w'.cell? ⟨gb308, 0, none⟩ = some (.int .i64 t302) ∧ w'.cell? ⟨gb308, 1, none⟩ = some (.int .i64 t303) ∧ w'.cell? ⟨gb308, 2, none⟩ = some (.int .i64 t304) ∧ w'.cell? ⟨gb308, 3, none⟩ = some (.int .i64 t305) ∧ w'.cell? ⟨gb308, 4, none⟩ = some (.int .i64 t306)) (ds := []) zq10_0 (by kernel_rfl) rfl rfl ⟨(blk_cell BK299.1 0).trans rfl, (blk_cell BK299.1 1).trans rfl, (blk_cell BK299.1 2).trans rfl, (blk_cell BK308.1 0).trans rfl, (blk_cell BK308.1 1).trans rfl, (blk_cell BK308.1 2).trans rfl, (blk_cell BK308.1 3).trans rfl, (blk_cell BK308.1 4).trans rfl⟩ (fun hHeld => ?_); refine with_tabW impl_eventOf.tab2 impl_eventOf.bits2 (fun HT_ HW_ => ?_)
  generalize w46.drew = w47 at BK299 BK300 BK308 HB hHeld ⊢
  refine zPu 0 ?_
  refine zPu 1 ?_
  refine zPu 4 ?_
  refine zTk8 2 hHeld ?_
  refine zTk8 3 hHeld ?_
  refine zTk8 5 hHeld ?_
  refine join_ (σ := Nat) 1 zq10_7 (fun s_ => [(25, .int .i64 t309), (9, .pointer (some ⟨s_, 0, none⟩)), (26, .agg #[.int .i64 a2, .int .i64 a1_1, .int .i64 t309, .int .i64 (-1), .int .i64 (-1)])]) (fun s_ w' => (w'.cell? ⟨gb299, 0, none⟩ = some (.slice A1_0 l1_0.length c1_0) ∧ w'.cell? ⟨gb299, 1, none⟩ = some (.int .i64 a1_1) ∧ w'.cell? ⟨gb299, 2, none⟩ = some (.int .i64 a1_2) ∧ w'.cell? ⟨gb308, 0, none⟩ = some (.int .i64 t302) ∧ w'.cell? ⟨gb308, 1, none⟩ = some (.int .i64 t303) ∧ w'.cell? ⟨gb308, 2, none⟩ = some (.int .i64 t304) ∧ w'.cell? ⟨gb308, 3, none⟩ = some (.int .i64 t305) ∧ w'.cell? ⟨gb308, 4, none⟩ = some (.int .i64 t306)) ∧ (w'.heap[gb299]? = some (.cells #[.slice A1_0 l1_0.length c1_0, .int .i64 a1_1, .int .i64 a1_2] 49 (0, 0))) ∧ (w'.heap[gb300]? = some (.cells #[.int .i64 0, .int .i64 0, .int .i64 0, .int .i64 0, .int .i64 0] 31 (0, 0))) ∧ (w'.heap[gb308]? = some (.cells #[.int .i64 t302, .int .i64 t303, .int .i64 t304, .int .i64 t305, .int .i64 t306] 71 (0, 0))) ∧ (w'.heap[s_]? = some (.cells #[.int .i64 0, .int .i64 0, .int .i64 0, .int .i64 0, .int .i64 0] 31 (0, 0))) ∧ (w.heap.size ≤ s_) ∧ (w.heap.size ≤ s_) ∧ (gb299 ≠ s_) ∧ (s_ ≠ gb299) ∧ (gb300 ≠ s_) ∧ (s_ ≠ gb300) ∧ (gb308 ≠ s_) ∧ (s_ ≠ gb308) ∧ (Below w.heap.size w w')) ?_ ?_
  rotate_left
  ·intro hCont
   refine two_ (i := 6) (j := 8) (Ni := some 25) (Nj := some 9) zq10_8 zq10_9 rfl rfl rfl rfl (two_of HT_.1 (by kernel_rfl)) (by decide) (by decide) (fun K hK => ?_) (fun K hK => ?_)
   ·refine zGs Try.func73 #[.agg #[.int .i64 t302, .int .i64 t303, .int .i64 t304, .int .i64 t305, .int .i64 t306], .slice A1_0 l1_0.length c1_0] ?_
    with_reducible refine (impl_Target.calls t302 t303 t304 t305 t306 _ _ l1_0 t309 _ ?side1 ?side2 A7.1).mono ?_
    (case side1 => exact zC (Kd.C_below HR1_0.1 HB.1))
    (case side2 => exact HC1_0.1)
    rintro e w48 ⟨rfl, hb⟩
    refine ⟨_, rfl, ?_⟩
    replace BK299 := zM (zb BK299.1 hb)
    replace BK300 := zM (zb BK300.1 hb)
    replace BK308 := zM (zb BK308.1 hb)
    replace HB := zM (below_step zB1 hb)
    refine hK.out _ _ zCs fun hHeld => ?_
    clear hK K
    refine zNo ?_
    refine zPu 7 ?_
    refine zOn 8 (some 9) fun K hK => ?_
    refine zBs 9 31 #[.int .i64 0, .int .i64 0, .int .i64 0, .int .i64 0, .int .i64 0] ?_
    intro gb310 hg w49 hbox hb
    replace BK310 := zM hbox
    replace GW310 := zM (zW hg (below_size zB1))
    replace GE310 := zM (zW hg (below_size zB1))
    replace HB := zM (below_step zB1 hb)
    replace NB299_310 := zM ((zn BK299.1 hg : gb299 ≠ gb310))
    replace NB310_299 := zM ((zm BK299.1 hg : gb310 ≠ gb299))
    replace BK299 := zM (zb BK299.1 hb)
    replace NB300_310 := zM ((zn BK300.1 hg : gb300 ≠ gb310))
    replace NB310_300 := zM ((zm BK300.1 hg : gb310 ≠ gb300))
    replace BK300 := zM (zb BK300.1 hb)
    replace NB308_310 := zM ((zn BK308.1 hg : gb308 ≠ gb310))
    replace NB310_308 := zM ((zm BK308.1 hg : gb310 ≠ gb308))
    replace BK308 := zM (zb BK308.1 hb)
    refine hK.out _ _ zCs fun hHeld => ?_
    clear hK K
    refine zNo ?_
    exact norm_ zNr (hCont (gb310) _ ⟨hHeld, (zK BK299.1), (zK BK300.1), (zK BK308.1), (zK BK310.1), GW310.1, GE310.1, NB299_310.1, NB310_299.1, NB300_310.1, NB310_300.1, NB308_310.1, NB310_308.1, zB1⟩)
   ·refine zBs 9 31 #[.int .i64 0, .int .i64 0, .int .i64 0, .int .i64 0, .int .i64 0] ?_
    intro gb310 hg w48 hbox hb
    replace BK310 := zM hbox
    replace GW310 := zM (zW hg (below_size zB1))
    replace GE310 := zM (zW hg (below_size zB1))
    replace HB := zM (below_step zB1 hb)
    replace NB299_310 := zM ((zn BK299.1 hg : gb299 ≠ gb310))
    replace NB310_299 := zM ((zm BK299.1 hg : gb310 ≠ gb299))
    replace BK299 := zM (zb BK299.1 hb)
    replace NB300_310 := zM ((zn BK300.1 hg : gb300 ≠ gb310))
    replace NB310_300 := zM ((zm BK300.1 hg : gb310 ≠ gb300))
    replace BK300 := zM (zb BK300.1 hb)
    replace NB308_310 := zM ((zn BK308.1 hg : gb308 ≠ gb310))
    replace NB310_308 := zM ((zm BK308.1 hg : gb310 ≠ gb308))
    replace BK308 := zM (zb BK308.1 hb)
    refine hK.out _ _ zCs fun hHeld => ?_
    clear hK K
    refine zNo ?_
    refine zOn 6 (some 25) fun K hK => ?_
    refine zGs Try.func73 #[.agg #[.int .i64 t302, .int .i64 t303, .int .i64 t304, .int .i64 t305, .int .i64 t306], .slice A1_0 l1_0.length c1_0] ?_
    with_reducible refine (impl_Target.calls t302 t303 t304 t305 t306 _ _ l1_0 t309 _ ?side1 ?side2 A7.1).mono ?_
    (case side1 => exact zC (Kd.C_below HR1_0.1 HB.1))
    (case side2 => exact HC1_0.1)
    rintro e w49 ⟨rfl, hb⟩
    refine ⟨_, rfl, ?_⟩
    replace BK299 := zM (zb BK299.1 hb)
    replace BK300 := zM (zb BK300.1 hb)
    replace BK308 := zM (zb BK308.1 hb)
    replace BK310 := zM (zb BK310.1 hb)
    replace HB := zM (below_step zB1 hb)
    refine hK.out _ _ zCs fun hHeld => ?_
    clear hK K
    refine zNo ?_
    refine zPu 7 ?_
    exact norm_ zNr (hCont (gb310) _ ⟨hHeld, (zK BK299.1), (zK BK300.1), (zK BK308.1), (zK BK310.1), GW310.1, GE310.1, NB299_310.1, NB310_299.1, NB300_310.1, NB310_300.1, NB308_310.1, NB310_308.1, zB1⟩)
  rintro gb310 w50 ⟨hS_, h0_, h1_, h2_, h3_, h4_, h5_, h6_, h7_, h8_, h9_, h10_, h11_, h12_⟩
  replace BK299 := zM h0_
  replace BK300 := zM h1_
  replace BK308 := zM h2_
  replace BK310 := zM h3_
  replace GW310 := zM h4_
  replace GE310 := zM h5_
  replace NB299_310 := zM h6_
  replace NB310_299 := zM h7_
  replace NB300_310 := zM h8_
  replace NB310_300 := zM h9_
  replace NB308_310 := zM h10_
  replace NB310_308 := zM h11_
  replace HB := zM h12_
  have hHeld : w50.cell? ⟨gb299, 0, none⟩ = some (.slice A1_0 l1_0.length c1_0) ∧ w50.cell? ⟨gb299, 1, none⟩ = some (.int .i64 a1_1) ∧ w50.cell? ⟨gb299, 2, none⟩ = some (.int .i64 a1_2) ∧ w50.cell? ⟨gb308, 0, none⟩ = some (.int .i64 t302) ∧ w50.cell? ⟨gb308, 1, none⟩ = some (.int .i64 t303) ∧ w50.cell? ⟨gb308, 2, none⟩ = some (.int .i64 t304) ∧ w50.cell? ⟨gb308, 3, none⟩ = some (.int .i64 t305) ∧ w50.cell? ⟨gb308, 4, none⟩ = some (.int .i64 t306) := hS_
  refine zNp ?_
  refine zOn 9 none fun K hK => ?_
  obtain ⟨hs51, hfs51⟩ := zHs BK310.1 0
  have hns51_0 := NB299_310.1
  have hns51_1 := NB300_310.1
  have hns51_2 := NB308_310.1
  have hms51_0 := NB310_299.1
  have hms51_1 := NB310_300.1
  have hms51_2 := NB310_308.1
  obtain ⟨hs52, hfs52⟩ := zHs BK310.1 1
  have hns52_0 := NB299_310.1
  have hns52_1 := NB300_310.1
  have hns52_2 := NB308_310.1
  have hms52_0 := NB310_299.1
  have hms52_1 := NB310_300.1
  have hms52_2 := NB310_308.1
  obtain ⟨hs53, hfs53⟩ := zHs BK310.1 2
  have hns53_0 := NB299_310.1
  have hns53_1 := NB300_310.1
  have hns53_2 := NB308_310.1
  have hms53_0 := NB310_299.1
  have hms53_1 := NB310_300.1
  have hms53_2 := NB310_308.1
  obtain ⟨hs54, hfs54⟩ := zHs BK310.1 3
  have hns54_0 := NB299_310.1
  have hns54_1 := NB300_310.1
  have hns54_2 := NB308_310.1
  have hms54_0 := NB310_299.1
  have hms54_1 := NB310_300.1
  have hms54_2 := NB310_308.1
  obtain ⟨hs55, hfs55⟩ := zHs BK310.1 4
  have hns55_0 := NB299_310.1
  have hns55_1 := NB300_310.1
  have hns55_2 := NB308_310.1
  have hms55_0 := NB310_299.1
  have hms55_1 := NB310_300.1
  have hms55_2 := NB310_308.1
  refine skip_ (w1 := ?_) (by rfl) rfl ?_ ?_
  rotate_left
  ·go_simp
   rfl
  refine hK.out _ _ zCs fun hHeld => ?_
  clear hK K
  refine done_ (done_of HT_.1 (by kernel_rfl)) ?_
  have hnb56 := NB310_299.1
  have hnc56 := NB299_310.1
  have hnb57 := NB310_300.1
  have hnc57 := NB300_310.1
  have hnb58 := NB310_308.1
  have hnc58 := NB308_310.1
  have hcz59 := zc_5 (w := w50) BK310.1
  try go_wp2
  have n0_ : Aside0 ((((((w50.setCell ⟨gb310, 0, none⟩ (.int .i64 a2)).setCell ⟨gb310, 1, none⟩ (.int .i64 a1_1)).setCell ⟨gb310, 2, none⟩ (.int .i64 t309)).setCell ⟨gb310, 3, none⟩ (.int .i64 (-1))).setCell ⟨gb310, 4, none⟩ (.int .i64 (-1))).heap[gb299]? = some (.cells #[.slice A1_0 l1_0.length c1_0, .int .i64 a1_1, .int .i64 a1_2] 49 (0, 0))) := ⟨zPq⟩
  have n1_ : Aside0 ((((((w50.setCell ⟨gb310, 0, none⟩ (.int .i64 a2)).setCell ⟨gb310, 1, none⟩ (.int .i64 a1_1)).setCell ⟨gb310, 2, none⟩ (.int .i64 t309)).setCell ⟨gb310, 3, none⟩ (.int .i64 (-1))).setCell ⟨gb310, 4, none⟩ (.int .i64 (-1))).heap[gb300]? = some (.cells #[.int .i64 0, .int .i64 0, .int .i64 0, .int .i64 0, .int .i64 0] 31 (0, 0))) := ⟨zPq⟩
  have n2_ : Aside0 ((((((w50.setCell ⟨gb310, 0, none⟩ (.int .i64 a2)).setCell ⟨gb310, 1, none⟩ (.int .i64 a1_1)).setCell ⟨gb310, 2, none⟩ (.int .i64 t309)).setCell ⟨gb310, 3, none⟩ (.int .i64 (-1))).setCell ⟨gb310, 4, none⟩ (.int .i64 (-1))).heap[gb308]? = some (.cells #[.int .i64 t302, .int .i64 t303, .int .i64 t304, .int .i64 t305, .int .i64 t306] 71 (0, 0))) := ⟨zPq⟩
  have n3_ : Aside0 ((((((w50.setCell ⟨gb310, 0, none⟩ (.int .i64 a2)).setCell ⟨gb310, 1, none⟩ (.int .i64 a1_1)).setCell ⟨gb310, 2, none⟩ (.int .i64 t309)).setCell ⟨gb310, 3, none⟩ (.int .i64 (-1))).setCell ⟨gb310, 4, none⟩ (.int .i64 (-1))).heap[gb310]? = some (.cells #[.int .i64 a2, .int .i64 a1_1, .int .i64 t309, .int .i64 (-1), .int .i64 (-1)] 31 (0, 0))) := ⟨by exact zp5 (zK BK310.1)⟩
  have n4_ : Aside0 (Below w.heap.size w (((((w50.setCell ⟨gb310, 0, none⟩ (.int .i64 a2)).setCell ⟨gb310, 1, none⟩ (.int .i64 a1_1)).setCell ⟨gb310, 2, none⟩ (.int .i64 t309)).setCell ⟨gb310, 3, none⟩ (.int .i64 (-1))).setCell ⟨gb310, 4, none⟩ (.int .i64 (-1)))) := ⟨zB1⟩
  (try clear BK299)
  (try clear BK300)
  (try clear BK308)
  (try clear BK310)
  (try clear HB)
  generalize (((((w50.setCell ⟨gb310, 0, none⟩ (.int .i64 a2)).setCell ⟨gb310, 1, none⟩ (.int .i64 a1_1)).setCell ⟨gb310, 2, none⟩ (.int .i64 t309)).setCell ⟨gb310, 3, none⟩ (.int .i64 (-1))).setCell ⟨gb310, 4, none⟩ (.int .i64 (-1))) = w60 at n0_ n1_ n2_ n3_ n4_ ⊢
  have BK299 := n0_
  have BK300 := n1_
  have BK308 := n2_
  have BK310 := n3_
  have HB := n4_
  clear n0_ n1_ n2_ n3_ n4_
  replace BK299 := zM (blk_drew BK299.1)
  replace BK300 := zM (blk_drew BK300.1)
  replace BK308 := zM (blk_drew BK308.1)
  replace BK310 := zM (blk_drew BK310.1)
  replace HB := zM (below_drew1 HB.1)
  have p311 : 0 ≤ (t309 : Int) := zA
  have q311 : t309 < (l0.length : Int) := zA
  obtain ⟨ad311, e311, hx311_0⟩ := Kd.at_int HR0.1 t309 p311 q311
  have hw311_0 := hx311_0
  obtain rfl : ad301 = ad311 := (by injection e311)
  replace hx311_0 := (HB.1.cell (World.block_lt_of_cell? w _ hx311_0)).trans hx311_0
  replace p311 := eq_true p311
  replace q311 := eq_true q311
  refine start_ (n := 13) (S := fun w' => w'.cell? ⟨gb299, 0, none⟩ = some (.slice A1_0 l1_0.length c1_0) ∧ w'.cell? ⟨gb299, 1, none⟩ = some (.int .i64 a1_1) ∧ w'.cell? ⟨gb299, 2, none⟩ = some (.int .i64 a1_2) ∧ w'.cell? ⟨gb308, 0, none⟩ = some (.int .i64 t302) ∧ w'.cell? ⟨gb308, 1, none⟩ = some (.int .i64 t303) ∧ w'.cell? ⟨gb308, 2, none⟩ = some (.int .i64 t304) ∧ w'.cell? ⟨gb308, 3, none⟩ = some (.int .i64 t305) ∧ w'.cell? ⟨gb308, 4, none⟩ = some (.int .i64 t306) ∧ w'.cell? ⟨gb310, 0, none⟩ = some (.int .i64 a2) ∧ w'.cell? ⟨gb310, 1, none⟩ = some (.int .i64 a1_1) ∧ w'.cell? ⟨gb310, 2, none⟩ = some (.int .i64 t309) ∧ w'.cell? ⟨gb310, 3, none⟩ = some (.int .i64 (-1)) ∧ w'.cell? ⟨gb310, 4, none⟩ = some (.int .i64 (-1)) ∧ w'.cell? (ad301.add (t309).toNat) = some (.int .i64 (rd l0 t309))) (ds := [12]) zq10_13 (by kernel_rfl) rfl rfl ⟨(blk_cell BK299.1 0).trans rfl, (blk_cell BK299.1 1).trans rfl, (blk_cell BK299.1 2).trans rfl, (blk_cell BK308.1 0).trans rfl, (blk_cell BK308.1 1).trans rfl, (blk_cell BK308.1 2).trans rfl, (blk_cell BK308.1 3).trans rfl, (blk_cell BK308.1 4).trans rfl, (blk_cell BK310.1 0).trans rfl, (blk_cell BK310.1 1).trans rfl, (blk_cell BK310.1 2).trans rfl, (blk_cell BK310.1 3).trans rfl, (blk_cell BK310.1 4).trans rfl, ((HB.1.cell (World.block_lt_of_cell? w _ hw311_0)).trans hw311_0)⟩ (fun hHeld => ?_); refine with_tabW impl_eventOf.tab5 impl_eventOf.bits5 (fun HT_ HW_ => ?_)
  generalize w60.drew = w61 at BK299 BK300 BK308 BK310 HB hx311_0 hHeld ⊢
  refine zPu 2 ?_
  refine zPu 3 ?_
  refine zTk14 0 hHeld ?_
  refine zTk14 1 hHeld ?_
  refine zTk14 4 hHeld ?_
  refine zPu 5 ?_
  refine zTk14 6 hHeld ?_
  refine zOn 7 (some 39) fun K hK => ?_
  refine zGs Try.func74 #[.agg #[.slice A1_0 l1_0.length c1_0, .int .i64 a1_1, .int .i64 a1_2], .agg #[.int .i64 t302, .int .i64 t303, .int .i64 t304, .int .i64 t305, .int .i64 t306], .int .i64 (rd l0 t309)] ?_
  with_reducible refine (impl_Work.calls k _ _ l1_0 a1_1 a1_2 t302 t303 t304 t305 t306 (rd l0 t309) t312 t315 t316 t317 _ ?side1 ?side2 A35.1).mono ?_
  (case side1 => exact zC (Kd.C_below HR1_0.1 HB.1))
  (case side2 => exact HC1_0.1)
  rintro e w62 ⟨v313, rfl, ho0, hb⟩
  refine ⟨_, rfl, ?_⟩
  have HO314 := zM (Kd.R_lower ho0 (below_size zB1))
  replace BK299 := zM (zb BK299.1 hb)
  replace BK300 := zM (zb BK300.1 hb)
  replace BK308 := zM (zb BK308.1 hb)
  replace BK310 := zM (zb BK310.1 hb)
  replace HB := zM (below_step zB1 hb)
  (try clear ho0)
  refine hK.out _ _ ⟨(blk_cell BK299.1 0).trans rfl, (blk_cell BK299.1 1).trans rfl, (blk_cell BK299.1 2).trans rfl, (blk_cell BK308.1 0).trans rfl, (blk_cell BK308.1 1).trans rfl, (blk_cell BK308.1 2).trans rfl, (blk_cell BK308.1 3).trans rfl, (blk_cell BK308.1 4).trans rfl, (blk_cell BK310.1 0).trans rfl, (blk_cell BK310.1 1).trans rfl, (blk_cell BK310.1 2).trans rfl, (blk_cell BK310.1 3).trans rfl, (blk_cell BK310.1 4).trans rfl, ((HB.1.cell (World.block_lt_of_cell? w _ hw311_0)).trans hw311_0)⟩ (fun hHeld => ?_)
  clear hK K
  refine zNo ?_
  refine zPu 8 ?_
  refine zPu 9 ?_
  refine zPu 10 ?_
  refine zPu 11 ?_
  refine last_ (i := 12) (N := none) zq10_26 rfl rfl (one_of HT_.1 (by kernel_rfl)) (by decide) (fun K hK => ?_)
  obtain ⟨hs63, hfs63⟩ := zHs BK310.1 4
  have hns63_0 := NB299_310.1
  have hns63_1 := NB300_310.1
  have hns63_2 := NB308_310.1
  have hms63_0 := NB310_299.1
  have hms63_1 := NB310_300.1
  have hms63_2 := NB310_308.1
  refine skip_ (w1 := ?_) (by rfl) rfl ?_ ?_
  rotate_left
  ·go_simp
   rfl
  refine hK.out _ _ ?_
  clear hK K
  refine done_ (done_of HT_.1 (by kernel_rfl)) ?_
  have hcz64 := zc_5 (w := w62) BK308.1
  have hcz65 := zc_5 (w := w62) BK310.1
  have hcz66 := zc_5 (w := w62) BK300.1
  try go_wp2
  refine bodyPost_ret (results_cell_row rfl _ _ gb300 31 #[.int .i64 a2, .int .i64 a1_1, .int .i64 t309, .int .i64 (-1), .int .i64 t317] (0, 0) _ rfl zPq Try.underlying31 rfl (by kernel_rfl)) rfl ?_
  exact ⟨zE, zB1⟩
 rw [if_neg c36] at H
 have c36b0 : (t302 == 5) = false := beq_eq_false_iff_ne.mpr c36
 have c36b1 : (t302 != 5) = true := bne_iff_ne.mpr c36
 simp only [Option.some.injEq, Prod.mk.injEq] at H
 obtain ⟨rfl, rfl, rfl, rfl, rfl⟩ := H
 go_enter Try.func54, Try.ntmps54
 try go_wp2_with (first | ((with_reducible refine zBx 4 49 #[.slice A1_0 l1_0.length c1_0, .int .i64 a1_1, .int .i64 a1_2] ?_); intro gb299 hg w67 hbox hb; have BK299 := zM hbox; have GW299 := zM (zW hg (below_size zB1)); have GE299 := zM (zW hg (below_size zB1)); replace HB := zM (below_step zB1 hb); clear hb hbox hg) | ((with_reducible refine zBx 6 31 #[.int .i64 0, .int .i64 0, .int .i64 0, .int .i64 0, .int .i64 0] ?_); intro gb300 hg w68 hbox hb; have BK300 := zM hbox; have GW300 := zM (zW hg (below_size zB1)); have GE300 := zM (zW hg (below_size zB1)); replace HB := zM (below_step zB1 hb); have NB299_300 := zM ((zn BK299.1 hg : gb299 ≠ gb300)); have NB300_299 := zM ((zm BK299.1 hg : gb300 ≠ gb299)); replace BK299 := zM (zb BK299.1 hb); clear hb hbox hg; have hnb69 := NB299_300.1; have hnc69 := NB300_299.1; have hcz70 := zc_3 (w := w68) BK299.1; have p301 : 0 ≤ (a1_1 : Int) := zA; have q301 : a1_1 < (l0.length : Int) := zA; obtain ⟨ad301, e301, hx301_0⟩ := Kd.at_int HR0.1 a1_1 p301 q301; cases e301; replace hx301_0 := (HB.1.cell (World.block_lt_of_cell? w _ hx301_0)).trans hx301_0; replace p301 := eq_true p301; replace q301 := eq_true q301) | ((with_reducible refine zG Try.func72 16 #[.int .i64 (rd l0 a1_1)] ?_); (with_reducible refine (impl_Decode.calls (rd l0 a1_1) t302 t303 t304 t305 t306 t307 _ A6.1).mono ?_); rintro e w71 ⟨rfl, hb⟩; refine ⟨_, rfl, ?_⟩; replace BK299 := zM (zb BK299.1 hb); replace BK300 := zM (zb BK300.1 hb); replace HB := zM (below_step zB1 hb); clear hb) | ((with_reducible refine zBx 7 71 #[.int .i64 0, .int .i64 0, .int .i64 0, .int .i64 0, .int .i64 0] ?_); intro gb308 hg w72 hbox hb; have BK308 := zM hbox; have GW308 := zM (zW hg (below_size zB1)); have GE308 := zM (zW hg (below_size zB1)); replace HB := zM (below_step zB1 hb); have NB299_308 := zM ((zn BK299.1 hg : gb299 ≠ gb308)); have NB308_299 := zM ((zm BK299.1 hg : gb308 ≠ gb299)); replace BK299 := zM (zb BK299.1 hb); have NB300_308 := zM ((zn BK300.1 hg : gb300 ≠ gb308)); have NB308_300 := zM ((zm BK300.1 hg : gb308 ≠ gb300)); replace BK300 := zM (zb BK300.1 hb); clear hb hbox hg; have hnb73 := NB308_299.1; have hnc73 := NB299_308.1; have hnb74 := NB308_300.1; have hnc74 := NB300_308.1; have hcz75 := zc_5 (w := w72) BK308.1))
 have n0_ : Aside0 ((((((w72.setCell ⟨gb308, 0, none⟩ (.int .i64 t302)).setCell ⟨gb308, 1, none⟩ (.int .i64 t303)).setCell ⟨gb308, 2, none⟩ (.int .i64 t304)).setCell ⟨gb308, 3, none⟩ (.int .i64 t305)).setCell ⟨gb308, 4, none⟩ (.int .i64 t306)).heap[gb299]? = some (.cells #[.slice A1_0 l1_0.length c1_0, .int .i64 a1_1, .int .i64 a1_2] 49 (0, 0))) := ⟨zPq⟩
 have n1_ : Aside0 ((((((w72.setCell ⟨gb308, 0, none⟩ (.int .i64 t302)).setCell ⟨gb308, 1, none⟩ (.int .i64 t303)).setCell ⟨gb308, 2, none⟩ (.int .i64 t304)).setCell ⟨gb308, 3, none⟩ (.int .i64 t305)).setCell ⟨gb308, 4, none⟩ (.int .i64 t306)).heap[gb300]? = some (.cells #[.int .i64 0, .int .i64 0, .int .i64 0, .int .i64 0, .int .i64 0] 31 (0, 0))) := ⟨zPq⟩
 have n2_ : Aside0 ((((((w72.setCell ⟨gb308, 0, none⟩ (.int .i64 t302)).setCell ⟨gb308, 1, none⟩ (.int .i64 t303)).setCell ⟨gb308, 2, none⟩ (.int .i64 t304)).setCell ⟨gb308, 3, none⟩ (.int .i64 t305)).setCell ⟨gb308, 4, none⟩ (.int .i64 t306)).heap[gb308]? = some (.cells #[.int .i64 t302, .int .i64 t303, .int .i64 t304, .int .i64 t305, .int .i64 t306] 71 (0, 0))) := ⟨by exact zp5 (zK BK308.1)⟩
 have n3_ : Aside0 (Below w.heap.size w (((((w72.setCell ⟨gb308, 0, none⟩ (.int .i64 t302)).setCell ⟨gb308, 1, none⟩ (.int .i64 t303)).setCell ⟨gb308, 2, none⟩ (.int .i64 t304)).setCell ⟨gb308, 3, none⟩ (.int .i64 t305)).setCell ⟨gb308, 4, none⟩ (.int .i64 t306))) := ⟨zB1⟩
 (try clear BK299)
 (try clear BK300)
 (try clear BK308)
 (try clear HB)
 generalize (((((w72.setCell ⟨gb308, 0, none⟩ (.int .i64 t302)).setCell ⟨gb308, 1, none⟩ (.int .i64 t303)).setCell ⟨gb308, 2, none⟩ (.int .i64 t304)).setCell ⟨gb308, 3, none⟩ (.int .i64 t305)).setCell ⟨gb308, 4, none⟩ (.int .i64 t306)) = w76 at n0_ n1_ n2_ n3_ ⊢
 have BK299 := n0_
 have BK300 := n1_
 have BK308 := n2_
 have HB := n3_
 clear n0_ n1_ n2_ n3_
 replace BK299 := zM (blk_drew BK299.1)
 replace BK300 := zM (blk_drew BK300.1)
 replace BK308 := zM (blk_drew BK308.1)
 replace HB := zM (below_drew1 HB.1)
 refine start_ (n := 10) (S := fun w' => w'.cell? ⟨gb299, 0, none⟩ = some (.slice A1_0 l1_0.length c1_0) ∧ w'.cell? ⟨gb299, 1, none⟩ = some (.int .i64 a1_1) ∧ w'.cell? ⟨gb299, 2, none⟩ = some (.int .i64 a1_2) ∧ w'.cell? ⟨gb308, 0, none⟩ = some (.int .i64 t302) ∧ w'.cell? ⟨gb308, 1, none⟩ = some (.int .i64 t303) ∧ w'.cell? ⟨gb308, 2, none⟩ = some (.int .i64 t304) ∧ w'.cell? ⟨gb308, 3, none⟩ = some (.int .i64 t305) ∧ w'.cell? ⟨gb308, 4, none⟩ = some (.int .i64 t306)) (ds := []) zq10_0 (by kernel_rfl) rfl rfl ⟨(blk_cell BK299.1 0).trans rfl, (blk_cell BK299.1 1).trans rfl, (blk_cell BK299.1 2).trans rfl, (blk_cell BK308.1 0).trans rfl, (blk_cell BK308.1 1).trans rfl, (blk_cell BK308.1 2).trans rfl, (blk_cell BK308.1 3).trans rfl, (blk_cell BK308.1 4).trans rfl⟩ (fun hHeld => ?_); refine with_tabW impl_eventOf.tab2 impl_eventOf.bits2 (fun HT_ HW_ => ?_)
 generalize w76.drew = w77 at BK299 BK300 BK308 HB hHeld ⊢
 refine zPu 0 ?_
 refine zPu 1 ?_
 refine zPu 4 ?_
 refine zTk8 2 hHeld ?_
 refine zTk8 3 hHeld ?_
 refine zTk8 5 hHeld ?_
 refine join_ (σ := Nat) 1 zq10_7 (fun s_ => [(25, .int .i64 t309), (9, .pointer (some ⟨s_, 0, none⟩)), (26, .agg #[.int .i64 a2, .int .i64 a1_1, .int .i64 t309, .int .i64 (-1), .int .i64 (-1)])]) (fun s_ w' => (w'.cell? ⟨gb299, 0, none⟩ = some (.slice A1_0 l1_0.length c1_0) ∧ w'.cell? ⟨gb299, 1, none⟩ = some (.int .i64 a1_1) ∧ w'.cell? ⟨gb299, 2, none⟩ = some (.int .i64 a1_2) ∧ w'.cell? ⟨gb308, 0, none⟩ = some (.int .i64 t302) ∧ w'.cell? ⟨gb308, 1, none⟩ = some (.int .i64 t303) ∧ w'.cell? ⟨gb308, 2, none⟩ = some (.int .i64 t304) ∧ w'.cell? ⟨gb308, 3, none⟩ = some (.int .i64 t305) ∧ w'.cell? ⟨gb308, 4, none⟩ = some (.int .i64 t306)) ∧ (w'.heap[gb299]? = some (.cells #[.slice A1_0 l1_0.length c1_0, .int .i64 a1_1, .int .i64 a1_2] 49 (0, 0))) ∧ (w'.heap[gb300]? = some (.cells #[.int .i64 0, .int .i64 0, .int .i64 0, .int .i64 0, .int .i64 0] 31 (0, 0))) ∧ (w'.heap[gb308]? = some (.cells #[.int .i64 t302, .int .i64 t303, .int .i64 t304, .int .i64 t305, .int .i64 t306] 71 (0, 0))) ∧ (w'.heap[s_]? = some (.cells #[.int .i64 0, .int .i64 0, .int .i64 0, .int .i64 0, .int .i64 0] 31 (0, 0))) ∧ (w.heap.size ≤ s_) ∧ (w.heap.size ≤ s_) ∧ (gb299 ≠ s_) ∧ (s_ ≠ gb299) ∧ (gb300 ≠ s_) ∧ (s_ ≠ gb300) ∧ (gb308 ≠ s_) ∧ (s_ ≠ gb308) ∧ (Below w.heap.size w w')) ?_ ?_
 rotate_left
 ·intro hCont
  refine two_ (i := 6) (j := 8) (Ni := some 25) (Nj := some 9) zq10_8 zq10_9 rfl rfl rfl rfl (two_of HT_.1 (by kernel_rfl)) (by decide) (by decide) (fun K hK => ?_) (fun K hK => ?_)
  ·refine zGs Try.func73 #[.agg #[.int .i64 t302, .int .i64 t303, .int .i64 t304, .int .i64 t305, .int .i64 t306], .slice A1_0 l1_0.length c1_0] ?_
   with_reducible refine (impl_Target.calls t302 t303 t304 t305 t306 _ _ l1_0 t309 _ ?side1 ?side2 A7.1).mono ?_
   (case side1 => exact zC (Kd.C_below HR1_0.1 HB.1))
   (case side2 => exact HC1_0.1)
   rintro e w78 ⟨rfl, hb⟩
   refine ⟨_, rfl, ?_⟩
   replace BK299 := zM (zb BK299.1 hb)
   replace BK300 := zM (zb BK300.1 hb)
   replace BK308 := zM (zb BK308.1 hb)
   replace HB := zM (below_step zB1 hb)
   refine hK.out _ _ zCs fun hHeld => ?_
   clear hK K
   refine zNo ?_
   refine zPu 7 ?_
   refine zOn 8 (some 9) fun K hK => ?_
   refine zBs 9 31 #[.int .i64 0, .int .i64 0, .int .i64 0, .int .i64 0, .int .i64 0] ?_
   intro gb310 hg w79 hbox hb
   replace BK310 := zM hbox
   replace GW310 := zM (zW hg (below_size zB1))
   replace GE310 := zM (zW hg (below_size zB1))
   replace HB := zM (below_step zB1 hb)
   replace NB299_310 := zM ((zn BK299.1 hg : gb299 ≠ gb310))
   replace NB310_299 := zM ((zm BK299.1 hg : gb310 ≠ gb299))
   replace BK299 := zM (zb BK299.1 hb)
   replace NB300_310 := zM ((zn BK300.1 hg : gb300 ≠ gb310))
   replace NB310_300 := zM ((zm BK300.1 hg : gb310 ≠ gb300))
   replace BK300 := zM (zb BK300.1 hb)
   replace NB308_310 := zM ((zn BK308.1 hg : gb308 ≠ gb310))
   replace NB310_308 := zM ((zm BK308.1 hg : gb310 ≠ gb308))
   replace BK308 := zM (zb BK308.1 hb)
   refine hK.out _ _ zCs fun hHeld => ?_
   clear hK K
   refine zNo ?_
   exact norm_ zNr (hCont (gb310) _ ⟨hHeld, (zK BK299.1), (zK BK300.1), (zK BK308.1), (zK BK310.1), GW310.1, GE310.1, NB299_310.1, NB310_299.1, NB300_310.1, NB310_300.1, NB308_310.1, NB310_308.1, zB1⟩)
  ·refine zBs 9 31 #[.int .i64 0, .int .i64 0, .int .i64 0, .int .i64 0, .int .i64 0] ?_
   intro gb310 hg w78 hbox hb
   replace BK310 := zM hbox
   replace GW310 := zM (zW hg (below_size zB1))
   replace GE310 := zM (zW hg (below_size zB1))
   replace HB := zM (below_step zB1 hb)
   replace NB299_310 := zM ((zn BK299.1 hg : gb299 ≠ gb310))
   replace NB310_299 := zM ((zm BK299.1 hg : gb310 ≠ gb299))
   replace BK299 := zM (zb BK299.1 hb)
   replace NB300_310 := zM ((zn BK300.1 hg : gb300 ≠ gb310))
   replace NB310_300 := zM ((zm BK300.1 hg : gb310 ≠ gb300))
   replace BK300 := zM (zb BK300.1 hb)
   replace NB308_310 := zM ((zn BK308.1 hg : gb308 ≠ gb310))
   replace NB310_308 := zM ((zm BK308.1 hg : gb310 ≠ gb308))
   replace BK308 := zM (zb BK308.1 hb)
   refine hK.out _ _ zCs fun hHeld => ?_
   clear hK K
   refine zNo ?_
   refine zOn 6 (some 25) fun K hK => ?_
   refine zGs Try.func73 #[.agg #[.int .i64 t302, .int .i64 t303, .int .i64 t304, .int .i64 t305, .int .i64 t306], .slice A1_0 l1_0.length c1_0] ?_
   with_reducible refine (impl_Target.calls t302 t303 t304 t305 t306 _ _ l1_0 t309 _ ?side1 ?side2 A7.1).mono ?_
   (case side1 => exact zC (Kd.C_below HR1_0.1 HB.1))
   (case side2 => exact HC1_0.1)
   rintro e w79 ⟨rfl, hb⟩
   refine ⟨_, rfl, ?_⟩
   replace BK299 := zM (zb BK299.1 hb)
   replace BK300 := zM (zb BK300.1 hb)
   replace BK308 := zM (zb BK308.1 hb)
   replace BK310 := zM (zb BK310.1 hb)
   replace HB := zM (below_step zB1 hb)
   refine hK.out _ _ zCs fun hHeld => ?_
   clear hK K
   refine zNo ?_
   refine zPu 7 ?_
   exact norm_ zNr (hCont (gb310) _ ⟨hHeld, (zK BK299.1), (zK BK300.1), (zK BK308.1), (zK BK310.1), GW310.1, GE310.1, NB299_310.1, NB310_299.1, NB300_310.1, NB310_300.1, NB308_310.1, NB310_308.1, zB1⟩)
 rintro gb310 w80 ⟨hS_, h0_, h1_, h2_, h3_, h4_, h5_, h6_, h7_, h8_, h9_, h10_, h11_, h12_⟩
 replace BK299 := zM h0_
 replace BK300 := zM h1_
 replace BK308 := zM h2_
 replace BK310 := zM h3_
 replace GW310 := zM h4_
 replace GE310 := zM h5_
 replace NB299_310 := zM h6_
 replace NB310_299 := zM h7_
 replace NB300_310 := zM h8_
 replace NB310_300 := zM h9_
 replace NB308_310 := zM h10_
 replace NB310_308 := zM h11_
 replace HB := zM h12_
 have hHeld : w80.cell? ⟨gb299, 0, none⟩ = some (.slice A1_0 l1_0.length c1_0) ∧ w80.cell? ⟨gb299, 1, none⟩ = some (.int .i64 a1_1) ∧ w80.cell? ⟨gb299, 2, none⟩ = some (.int .i64 a1_2) ∧ w80.cell? ⟨gb308, 0, none⟩ = some (.int .i64 t302) ∧ w80.cell? ⟨gb308, 1, none⟩ = some (.int .i64 t303) ∧ w80.cell? ⟨gb308, 2, none⟩ = some (.int .i64 t304) ∧ w80.cell? ⟨gb308, 3, none⟩ = some (.int .i64 t305) ∧ w80.cell? ⟨gb308, 4, none⟩ = some (.int .i64 t306) := hS_
 refine zNp ?_
 refine zOn 9 none fun K hK => ?_
 obtain ⟨hs81, hfs81⟩ := zHs BK310.1 0
 have hns81_0 := NB299_310.1
 have hns81_1 := NB300_310.1
 have hns81_2 := NB308_310.1
 have hms81_0 := NB310_299.1
 have hms81_1 := NB310_300.1
 have hms81_2 := NB310_308.1
 obtain ⟨hs82, hfs82⟩ := zHs BK310.1 1
 have hns82_0 := NB299_310.1
 have hns82_1 := NB300_310.1
 have hns82_2 := NB308_310.1
 have hms82_0 := NB310_299.1
 have hms82_1 := NB310_300.1
 have hms82_2 := NB310_308.1
 obtain ⟨hs83, hfs83⟩ := zHs BK310.1 2
 have hns83_0 := NB299_310.1
 have hns83_1 := NB300_310.1
 have hns83_2 := NB308_310.1
 have hms83_0 := NB310_299.1
 have hms83_1 := NB310_300.1
 have hms83_2 := NB310_308.1
 obtain ⟨hs84, hfs84⟩ := zHs BK310.1 3
 have hns84_0 := NB299_310.1
 have hns84_1 := NB300_310.1
 have hns84_2 := NB308_310.1
 have hms84_0 := NB310_299.1
 have hms84_1 := NB310_300.1
 have hms84_2 := NB310_308.1
 obtain ⟨hs85, hfs85⟩ := zHs BK310.1 4
 have hns85_0 := NB299_310.1
 have hns85_1 := NB300_310.1
 have hns85_2 := NB308_310.1
 have hms85_0 := NB310_299.1
 have hms85_1 := NB310_300.1
 have hms85_2 := NB310_308.1
 refine skip_ (w1 := ?_) (by rfl) rfl ?_ ?_
 rotate_left
 ·go_simp
  rfl
 refine hK.out _ _ zCs fun hHeld => ?_
 clear hK K
 refine done_ (done_of HT_.1 (by kernel_rfl)) ?_
 have hnb86 := NB310_299.1
 have hnc86 := NB299_310.1
 have hnb87 := NB310_300.1
 have hnc87 := NB300_310.1
 have hnb88 := NB310_308.1
 have hnc88 := NB308_310.1
 have hcz89 := zc_5 (w := w80) BK310.1
 try go_wp2
 have n0_ : Aside0 ((((((w80.setCell ⟨gb310, 0, none⟩ (.int .i64 a2)).setCell ⟨gb310, 1, none⟩ (.int .i64 a1_1)).setCell ⟨gb310, 2, none⟩ (.int .i64 t309)).setCell ⟨gb310, 3, none⟩ (.int .i64 (-1))).setCell ⟨gb310, 4, none⟩ (.int .i64 (-1))).heap[gb299]? = some (.cells #[.slice A1_0 l1_0.length c1_0, .int .i64 a1_1, .int .i64 a1_2] 49 (0, 0))) := ⟨zPq⟩
 have n1_ : Aside0 ((((((w80.setCell ⟨gb310, 0, none⟩ (.int .i64 a2)).setCell ⟨gb310, 1, none⟩ (.int .i64 a1_1)).setCell ⟨gb310, 2, none⟩ (.int .i64 t309)).setCell ⟨gb310, 3, none⟩ (.int .i64 (-1))).setCell ⟨gb310, 4, none⟩ (.int .i64 (-1))).heap[gb300]? = some (.cells #[.int .i64 0, .int .i64 0, .int .i64 0, .int .i64 0, .int .i64 0] 31 (0, 0))) := ⟨zPq⟩
 have n2_ : Aside0 ((((((w80.setCell ⟨gb310, 0, none⟩ (.int .i64 a2)).setCell ⟨gb310, 1, none⟩ (.int .i64 a1_1)).setCell ⟨gb310, 2, none⟩ (.int .i64 t309)).setCell ⟨gb310, 3, none⟩ (.int .i64 (-1))).setCell ⟨gb310, 4, none⟩ (.int .i64 (-1))).heap[gb308]? = some (.cells #[.int .i64 t302, .int .i64 t303, .int .i64 t304, .int .i64 t305, .int .i64 t306] 71 (0, 0))) := ⟨zPq⟩
 have n3_ : Aside0 ((((((w80.setCell ⟨gb310, 0, none⟩ (.int .i64 a2)).setCell ⟨gb310, 1, none⟩ (.int .i64 a1_1)).setCell ⟨gb310, 2, none⟩ (.int .i64 t309)).setCell ⟨gb310, 3, none⟩ (.int .i64 (-1))).setCell ⟨gb310, 4, none⟩ (.int .i64 (-1))).heap[gb310]? = some (.cells #[.int .i64 a2, .int .i64 a1_1, .int .i64 t309, .int .i64 (-1), .int .i64 (-1)] 31 (0, 0))) := ⟨by exact zp5 (zK BK310.1)⟩
 have n4_ : Aside0 (Below w.heap.size w (((((w80.setCell ⟨gb310, 0, none⟩ (.int .i64 a2)).setCell ⟨gb310, 1, none⟩ (.int .i64 a1_1)).setCell ⟨gb310, 2, none⟩ (.int .i64 t309)).setCell ⟨gb310, 3, none⟩ (.int .i64 (-1))).setCell ⟨gb310, 4, none⟩ (.int .i64 (-1)))) := ⟨zB1⟩
 (try clear BK299)
 (try clear BK300)
 (try clear BK308)
 (try clear BK310)
 (try clear HB)
 generalize (((((w80.setCell ⟨gb310, 0, none⟩ (.int .i64 a2)).setCell ⟨gb310, 1, none⟩ (.int .i64 a1_1)).setCell ⟨gb310, 2, none⟩ (.int .i64 t309)).setCell ⟨gb310, 3, none⟩ (.int .i64 (-1))).setCell ⟨gb310, 4, none⟩ (.int .i64 (-1))) = w90 at n0_ n1_ n2_ n3_ n4_ ⊢
 have BK299 := n0_
 have BK300 := n1_
 have BK308 := n2_
 have BK310 := n3_
 have HB := n4_
 clear n0_ n1_ n2_ n3_ n4_
 replace BK299 := zM (blk_drew BK299.1)
 replace BK300 := zM (blk_drew BK300.1)
 replace BK308 := zM (blk_drew BK308.1)
 replace BK310 := zM (blk_drew BK310.1)
 replace HB := zM (below_drew1 HB.1)
 have p311 : 0 ≤ (t309 : Int) := zA
 have q311 : t309 < (l0.length : Int) := zA
 obtain ⟨ad311, e311, hx311_0⟩ := Kd.at_int HR0.1 t309 p311 q311
 have hw311_0 := hx311_0
 obtain rfl : ad301 = ad311 := (by injection e311)
 replace hx311_0 := (HB.1.cell (World.block_lt_of_cell? w _ hx311_0)).trans hx311_0
 replace p311 := eq_true p311
 replace q311 := eq_true q311
 refine start_ (n := 13) (S := fun w' => w'.cell? ⟨gb299, 0, none⟩ = some (.slice A1_0 l1_0.length c1_0) ∧ w'.cell? ⟨gb299, 1, none⟩ = some (.int .i64 a1_1) ∧ w'.cell? ⟨gb299, 2, none⟩ = some (.int .i64 a1_2) ∧ w'.cell? ⟨gb308, 0, none⟩ = some (.int .i64 t302) ∧ w'.cell? ⟨gb308, 1, none⟩ = some (.int .i64 t303) ∧ w'.cell? ⟨gb308, 2, none⟩ = some (.int .i64 t304) ∧ w'.cell? ⟨gb308, 3, none⟩ = some (.int .i64 t305) ∧ w'.cell? ⟨gb308, 4, none⟩ = some (.int .i64 t306) ∧ w'.cell? ⟨gb310, 0, none⟩ = some (.int .i64 a2) ∧ w'.cell? ⟨gb310, 1, none⟩ = some (.int .i64 a1_1) ∧ w'.cell? ⟨gb310, 2, none⟩ = some (.int .i64 t309) ∧ w'.cell? ⟨gb310, 3, none⟩ = some (.int .i64 (-1)) ∧ w'.cell? ⟨gb310, 4, none⟩ = some (.int .i64 (-1)) ∧ w'.cell? (ad301.add (t309).toNat) = some (.int .i64 (rd l0 t309))) (ds := [12]) zq10_13 (by kernel_rfl) rfl rfl ⟨(blk_cell BK299.1 0).trans rfl, (blk_cell BK299.1 1).trans rfl, (blk_cell BK299.1 2).trans rfl, (blk_cell BK308.1 0).trans rfl, (blk_cell BK308.1 1).trans rfl, (blk_cell BK308.1 2).trans rfl, (blk_cell BK308.1 3).trans rfl, (blk_cell BK308.1 4).trans rfl, (blk_cell BK310.1 0).trans rfl, (blk_cell BK310.1 1).trans rfl, (blk_cell BK310.1 2).trans rfl, (blk_cell BK310.1 3).trans rfl, (blk_cell BK310.1 4).trans rfl, ((HB.1.cell (World.block_lt_of_cell? w _ hw311_0)).trans hw311_0)⟩ (fun hHeld => ?_); refine with_tabW impl_eventOf.tab5 impl_eventOf.bits5 (fun HT_ HW_ => ?_)
 generalize w90.drew = w91 at BK299 BK300 BK308 BK310 HB hx311_0 hHeld ⊢
 refine zPu 2 ?_
 refine zPu 3 ?_
 refine zTk14 0 hHeld ?_
 refine zTk14 1 hHeld ?_
 refine zTk14 4 hHeld ?_
 refine zPu 5 ?_
 refine zTk14 6 hHeld ?_
 refine zOn 7 (some 39) fun K hK => ?_
 refine zGs Try.func74 #[.agg #[.slice A1_0 l1_0.length c1_0, .int .i64 a1_1, .int .i64 a1_2], .agg #[.int .i64 t302, .int .i64 t303, .int .i64 t304, .int .i64 t305, .int .i64 t306], .int .i64 (rd l0 t309)] ?_
 with_reducible refine (impl_Work.calls k _ _ l1_0 a1_1 a1_2 t302 t303 t304 t305 t306 (rd l0 t309) t312 t315 t316 t317 _ ?side1 ?side2 A35.1).mono ?_
 (case side1 => exact zC (Kd.C_below HR1_0.1 HB.1))
 (case side2 => exact HC1_0.1)
 rintro e w92 ⟨v313, rfl, ho0, hb⟩
 refine ⟨_, rfl, ?_⟩
 have HO314 := zM (Kd.R_lower ho0 (below_size zB1))
 replace BK299 := zM (zb BK299.1 hb)
 replace BK300 := zM (zb BK300.1 hb)
 replace BK308 := zM (zb BK308.1 hb)
 replace BK310 := zM (zb BK310.1 hb)
 replace HB := zM (below_step zB1 hb)
 (try clear ho0)
 refine hK.out _ _ ⟨(blk_cell BK299.1 0).trans rfl, (blk_cell BK299.1 1).trans rfl, (blk_cell BK299.1 2).trans rfl, (blk_cell BK308.1 0).trans rfl, (blk_cell BK308.1 1).trans rfl, (blk_cell BK308.1 2).trans rfl, (blk_cell BK308.1 3).trans rfl, (blk_cell BK308.1 4).trans rfl, (blk_cell BK310.1 0).trans rfl, (blk_cell BK310.1 1).trans rfl, (blk_cell BK310.1 2).trans rfl, (blk_cell BK310.1 3).trans rfl, (blk_cell BK310.1 4).trans rfl, ((HB.1.cell (World.block_lt_of_cell? w _ hw311_0)).trans hw311_0)⟩ (fun hHeld => ?_)
 clear hK K
 refine zNo ?_
 refine zPu 8 ?_
 refine zPu 9 ?_
 refine zPu 10 ?_
 refine zPu 11 ?_
 refine last_ (i := 12) (N := none) zq10_26 rfl rfl (one_of HT_.1 (by kernel_rfl)) (by decide) (fun K hK => ?_)
 obtain ⟨hs93, hfs93⟩ := zHs BK310.1 4
 have hns93_0 := NB299_310.1
 have hns93_1 := NB300_310.1
 have hns93_2 := NB308_310.1
 have hms93_0 := NB310_299.1
 have hms93_1 := NB310_300.1
 have hms93_2 := NB310_308.1
 refine skip_ (w1 := ?_) (by rfl) rfl ?_ ?_
 rotate_left
 ·go_simp
  rfl
 refine hK.out _ _ ?_
 clear hK K
 refine done_ (done_of HT_.1 (by kernel_rfl)) ?_
 have hcz94 := zc_5 (w := w92) BK308.1
 have hcz95 := zc_5 (w := w92) BK310.1
 have p318 : 0 ≤ (t309 : Int) := zA
 have q318 : t309 < (l0.length : Int) := zA
 obtain ⟨ad318, e318, hx318_0⟩ := Kd.at_int HR0.1 t309 p318 q318
 obtain rfl : ad301 = ad318 := (by injection e318)
 have hn318_0 : ad301.block ≠ gb310 := Nat.ne_of_lt (Nat.lt_of_lt_of_le (by have := World.block_lt_of_cell? _ _ hx318_0; first | rwa [add_block] at this | exact this) GW310.1)
 replace hx318_0 := (HB.1.cell (World.block_lt_of_cell? w _ hx318_0)).trans hx318_0
 replace hx318_0 := (cell_far (p := ⟨gb310, 4, none⟩) (by first | (rw [add_block]; exact hn318_0) | (show (Addr.add _ _).block ≠ _; rw [add_block]; exact hn318_0) | exact hn318_0) (.int .i64 t317)).trans hx318_0
 clear hn318_0
 replace p318 := eq_true p318
 replace q318 := eq_true q318
 have hcz96 := zc_5 (w := w92) BK300.1
 try go_wp2
 refine bodyPost_ret (results_cell_row rfl _ _ gb300 31 #[.int .i64 a2, .int .i64 a1_1, .int .i64 t309, .int .i64 (rd l0 t309), .int .i64 t317] (0, 0) _ rfl zPq Try.underlying31 rfl (by kernel_rfl)) rfl ?_
 exact ⟨zE, zB1⟩

end Go.Proofs.Ytgbjengnkbomoaa.PFnRacesOfCounts
