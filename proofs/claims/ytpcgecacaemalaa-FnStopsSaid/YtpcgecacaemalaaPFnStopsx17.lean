-- made by wip/tools/myprint.py out of the seat's translation
import Derived.Test.YtpcgecacaemalaaPFnStopsx0
import Derived.Test.YtpcgecacaemalaaPFnStopsx6
import Derived.Test.YtpcgecacaemalaaPFnStopsx7
import Derived.Test.YtpcgecacaemalaaPFnStopsx15
import Derived.Test.YtpcgecacaemalaaPFnStopsx16
namespace Go.Proofs.Ytpcgecacaemalaa.PFnStops
open Go.RowKit Go.Proofs.YtpcgecacaemalaaW.PrintWords Go.Proofs.YtpcgecacaemalaaW.PrintLast Go.Proofs.YtpcgecacaemalaaW.PrintMore
attribute [local go_sem] max2_int min2_int max_two min_two max_three min_three max_four min_four -- for this text's walks alone
set_option linter.unusedVariables false
set_option linter.unusedSimpArgs false
set_option maxHeartbeats 8000000
set_option maxRecDepth 100000

/-! ### spec_FlatStep: function 105 -/
def spec_FlatStep.j0:Nat→List Int→List Int→Bool→List Int→Int→Int→Option (List Int×List Int×Int×Int)
 |0,_,_,_,_,_,_=>none
 |k+1,x0,x6,x28,x656000,x656001,x656002=>if x28=true then ((spec_l9Copy.f x656000 x656001 x656002).bind fun bt665=>(some (x6,bt665.1,bt665.2.1,bt665.2.2))) else (if 0≤x656001 then (if x656001<(x0.length:Int) then ((spec_Decode.f (rd x0 x656001)).bind fun bt671=>((spec_Target.f bt671.1 bt671.2.1 bt671.2.2.1 bt671.2.2.2.1 bt671.2.2.2.2.1 x656000).bind fun t678=>(if t678≥0 then (if 0≤t678 then (if t678<(x0.length:Int) then ((spec_Work.f k x656000 x656001 x656002 bt671.1 bt671.2.1 bt671.2.2.1 bt671.2.2.2.1 bt671.2.2.2.2.1 (rd x0 t678)).bind fun bt680=>(if bt680.2.2.2≥0 then (if t678<(x6.length:Int) then (some ((x6.set (t678:Int).toNat bt680.2.2.2),bt680.1,bt680.2.1,bt680.2.2.1)) else (none)) else (some (x6,bt680.1,bt680.2.1,bt680.2.2.1)))) else (none)) else (none)) else ((spec_Work.f k x656000 x656001 x656002 bt671.1 bt671.2.1 bt671.2.2.1 bt671.2.2.2.1 bt671.2.2.2.2.1 0).bind fun bt688=>(if bt688.2.2.2≥0 then (if 0≤t678 then (if t678<(x6.length:Int) then (some ((x6.set (t678:Int).toNat bt688.2.2.2),bt688.1,bt688.2.1,bt688.2.2.1)) else (none)) else (none)) else (some (x6,bt688.1,bt688.2.1,bt688.2.2.1))))))) else (none)) else (none))
def spec_FlatStep.f (k:Nat) (l0:List Int) (l1_0:List Int) (a1_1:Int) (a1_2:Int):Option (List Int×List Int×Int×Int):=(some (([]:List Int):List Int)).bind fun y657=>(if y657.length+l0.length<17592186044416 then ((some (y657++l0:List Int)).bind fun y660=>((spec_l1Words.f k l0 24).bind fun t663=>(if t663=true then ((spec_HartOk.f k l1_0 a1_1 a1_2).bind fun t664=>(if t664=true then (spec_FlatStep.j0 k l0 y660 (a1_2 != 0) l1_0 a1_1 a1_2) else (spec_FlatStep.j0 k l0 y660 true l1_0 a1_1 a1_2))) else (spec_FlatStep.j0 k l0 y660 true l1_0 a1_1 a1_2)))) else (none))
theorem spec_FlatStep.mono_l: ∀k,(∀y0 y1 y2 y3 y4 y5,LeO (spec_FlatStep.j0 k y0 y1 y2 y3 y4 y5) (spec_FlatStep.j0 (k+1) y0 y1 y2 y3 y4 y5))
 |0=>fun _ _ _ _ _ _ r h=>by simp [spec_FlatStep.j0] at h
 |k+1=>by
  have ih0:=spec_FlatStep.mono_l k
  ·intros
   unfold spec_FlatStep.j0
   have mo0:=@spec_HartOk.mono
   have mo1:=@spec_Work.mono
   have mo2:=@spec_l1Words.mono
   exact zL
theorem spec_FlatStep.mono: ∀a0 a1 a2 a3 k,LeO (spec_FlatStep.f k a0 a1 a2 a3) (spec_FlatStep.f (k+1) a0 a1 a2 a3):=by
 intro a0 a1 a2 a3 k
 have ih0:=spec_FlatStep.mono_l k
 unfold spec_FlatStep.f
 have mo0:=@spec_HartOk.mono
 have mo1:=@spec_Work.mono
 have mo2:=@spec_l1Words.mono
 exact zL
theorem spec_FlatStep.calls (k:Nat) (A0:Option Addr) (c0:Nat) (l0:List Int) (A1_0:Option Addr) (c1_0:Nat) (l1_0:List Int) (a1_1:Int) (a1_2:Int) (r1:List Int) (r2:List Int) (r3:Int) (r4:Int) (w:World) (hr0:Kd.C (Kd.int .i64) w A0 l0.length l0) (hc0:l0.length≤c0) (hr1_0:Kd.C (Kd.int .i64) w A1_0 l1_0.length l1_0) (hc1_0:l1_0.length≤c1_0) (h:spec_FlatStep.f k l0 l1_0 a1_1 a1_2=some (r1,r2,r3,r4)):
  Calls Try.prog 105 #[.slice A0 l0.length c0,.agg #[.slice A1_0 l1_0.length c1_0,.int .i64 a1_1,.int .i64 a1_2]] w fun e w'=>∃v0_ v1_:Value,e= .returned (.tuple #[v0_,.agg #[v1_,.int .i64 r3,.int .i64 r4]])∧Kd.R (Kd.int .i64) 3 w' w.heap.size (fun k_=>some k_≠(v1_:Value).ownBlock) v0_ r1∧Kd.R (Kd.int .i64) 3 w' w.heap.size (fun k_=>some k_≠(v0_:Value).ownBlock) v1_ r2∧Below w.heap.size w w':=by
 have hu53:=Try.underlying53
 have hu109:=Try.underlying109
 have HR0:=zM hr0
 have HC0:=zM hc0
 clear hr0 hc0
 have HR1_0:=zM hr1_0
 have HC1_0:=zM hc1_0
 clear hr1_0 hc1_0
 have HB:=zM (Below.refl w.heap.size w)
 unfold spec_FlatStep.f at h
 have H:=h
 clear h
 replace H:=zY H
 obtain ⟨y657,Ny657,H⟩:=H
 replace H:=zIn H
 obtain ⟨LMc3,H⟩:=H
 replace H:=zY H
 obtain ⟨y660,Ny660,H⟩:=H
 have HC4:=zM H
 clear H
 go_enter Try.func105,Try.ntmps105
 go_upto_region 2 with (first|((with_reducible refine zBx 3 53 #[.slice A1_0 l1_0.length c1_0,.int .i64 a1_1,.int .i64 a1_2] ?_);intro gb655 hg w5 hbox hb;have BK655:=zM hbox;have GW655:=zM (zW hg (below_size zB0));have GE655:=zM (zW hg (below_size zB0));replace HB:=zM (below_step zB0 hb);clear hb hbox hg)|((with_reducible refine zBx 5 53 #[.slice none 0 0,.int .i64 0,.int .i64 0] ?_);intro gb656 hg w6 hbox hb;have BK656:=zM hbox;have GW656:=zM (zW hg (below_size zB0));have GE656:=zM (zW hg (below_size zB0));replace HB:=zM (below_step zB0 hb);have NB655_656:=zM ((zn BK655.1 hg:gb655≠gb656));have NB656_655:=zM ((zm BK655.1 hg:gb656≠gb655));replace BK655:=zM (zb BK655.1 hb);clear hb hbox hg)|((with_reducible refine gate_dst (N:=13) rfl ?_);refine Kd.R_lit (Kd.int .i64) _ 3 ?hg (N:=13) ?hd (xs:=([]:List Int)) (inner:=[]) (ok:=fun _=>True) (okp:=fun _=>True) ?hr ?hp (fun _ hk=>hk) trivial (Below.refl _ _) (Nat.le_refl _) (by simp) ?_;(case hd=>rfl);(case hg=>rfl);(case hr=>exact zHH);(case hp=>exact (Reps.none _ _));intro v658 w7 ho8 hb hg_ hnew_;clear hg_ hnew_;(first|rw [←Ny657.1] at ho8|(simp only [Int.reduceToNat] at ho8;rw [←Ny657.1] at ho8));have HO659:=zM (Kd.R_lower ho8 (below_size zB0));replace BK655:=zM (zb BK655.1 hb);replace BK656:=zM (zb BK656.1 hb);replace HB:=zM (below_step zB0 hb);clear hb ho8)|((with_reducible refine gate_builtin (b:= .append) (xs:=#[.tmp 13,.tmp 14]) rfl ?_);at_builtin;refine Kd.R_append_rows (Kd.int .i64) (w0:=w) w.heap.size rfl (.tmp 13) (.tmp 14) 24 3 (.int .i64 0) 8 rfl Try.underlying24 info3 rfl (by decide) (by omega) v658 y657 l0 _ _ _ (fun _=>True) (fun _=>False) rfl rfl ?aO ?aR (fun _ _ h=>h) (fun _ h=>h.elim) ?aF ?aB ?aS ?aL ?_;(case aR=>exact zC (Kd.C_below HR0.1 HB.1));(case aB=>exact zB0);(case aF=>exact (fun _ _=>trivial));(case aO=>exact (zR HO659.1));(case aS=>exact (below_size zB0));(case aL=>have:=LMc3.out;omega);intro v661 w9 ho hb hg hat;rw [←Ny660.1] at ho;replace BK655:=zM (zg BK655.1 hg (Kd.R_ne HO659.1 BK655.1 (by decide)));replace BK656:=zM (zg BK656.1 hg (Kd.R_ne HO659.1 BK656.1 (by decide)));replace HB:=zM hb;have HO662:=zM ho;clear HO659;clear ho hb hg hat))
 (try simp only [Act.put,List.setIfInBounds_toArray,List.set_cons_zero,List.set_cons_succ])
 go_cut [28] (fun v28 wc=>∃(kq:Nat) (x28_3:Bool),v28= .bool x28_3∧Aside0 (spec_FlatStep.j0 kq l0 y660 x28_3 l1_0 a1_1 a1_2=some (r1,r2,r3,r4))∧Aside0 (kq≤k)∧Aside0 (Kd.R (Kd.int .i64) 3 wc w.heap.size (fun _=>True) v661 y660)∧Aside0 (wc.heap[gb655]? =some (.cells #[(.slice A1_0 l1_0.length c1_0),.int .i64 a1_1,.int .i64 a1_2] 53 (0,0)))∧Aside0 (wc.heap[gb656]? =some (.cells #[(.slice none 0 0),.int .i64 0,.int .i64 0] 53 (0,0)))∧Aside0 (Below w.heap.size w wc))
 case first=>
  have H:=HC4.1
  clear HC4
  replace H:=zO H
  obtain ⟨t663,A10,H⟩:=H
  by_cases c11:t663=true
  rotate_left
  ·replace c11:=Bool.eq_false_iff.mpr c11
   subst c11
   rw [if_neg zF] at H
   have H':=zM H
   clear H
   go_wp2_with (first|((with_reducible refine zG Try.func96 17 #[.slice A0 l0.length c0,.int .i64 24] ?_);(with_reducible refine (spec_l1Words.calls k _ _ l0 24 false _ ?side1 ?side2 A10.1).mono ?_);(case side1=>exact zC (Kd.C_below HR0.1 HB.1));(case side2=>exact HC0.1);rintro e w' ⟨rfl,⟨nd,rfl⟩⟩;refine ⟨_,rfl,?_⟩))
   go_meet
   case rel=>exact ⟨_,(true),zJJ,H',⟨by first|omega|exact Nat.le_refl _⟩,⟨zR HO662.1⟩,⟨zK BK655.1⟩,⟨zK BK656.1⟩,⟨zB0⟩⟩
  subst c11
  rw [if_pos rfl] at H
  replace H:=zO H
  obtain ⟨t664,A12,H⟩:=H
  by_cases c13:t664=true
  rotate_left
  ·replace c13:=Bool.eq_false_iff.mpr c13
   subst c13
   rw [if_neg zF] at H
   have H':=zM H
   clear H
   go_wp2_with (first|((with_reducible refine zG Try.func96 17 #[.slice A0 l0.length c0,.int .i64 24] ?_);(with_reducible refine (spec_l1Words.calls k _ _ l0 24 true _ ?side1 ?side2 A10.1).mono ?_);(case side1=>exact zC (Kd.C_below HR0.1 HB.1));(case side2=>exact HC0.1);rintro e w' ⟨rfl,⟨nd,rfl⟩⟩;refine ⟨_,rfl,?_⟩;have hnb18:=NB655_656.1;have hnc18:=NB656_655.1;have hcz19:=zc_3 (w:=w9) BK655.1)|(go_at_call 94;(with_reducible refine (spec_HartOk.calls k _ _ l1_0 a1_1 a1_2 false _ ?side1 ?side2 A12.1).mono ?_);(case side1=>repeat (first|exact (Kd.C_below HR1_0.1 zB0)|(with_reducible refine Kd.C_alloc ?_ _)|(with_reducible refine Kd.C_drewN ?_ _)|(with_reducible refine Kd.C_drew ?_)));(case side2=>exact HC1_0.1);rintro e w20 ⟨rfl,hb⟩;replace HO662:=zM (Kd.R_below (zR HO662.1) hb);replace BK655:=zM (zb BK655.1 hb);replace BK656:=zM (zb BK656.1 hb);replace HB:=zM (below_step zB0 hb);clear hb))
   go_meet
   case rel=>exact ⟨_,(true),zJJ,H',⟨by first|omega|exact Nat.le_refl _⟩,⟨zR HO662.1⟩,⟨zK BK655.1⟩,⟨zK BK656.1⟩,⟨zB0⟩⟩
  subst c13
  rw [if_pos rfl] at H
  have H':=zM H
  clear H
  go_wp2_with (first|((with_reducible refine zG Try.func96 17 #[.slice A0 l0.length c0,.int .i64 24] ?_);(with_reducible refine (spec_l1Words.calls k _ _ l0 24 true _ ?side1 ?side2 A10.1).mono ?_);(case side1=>exact zC (Kd.C_below HR0.1 HB.1));(case side2=>exact HC0.1);rintro e w' ⟨rfl,⟨nd,rfl⟩⟩;refine ⟨_,rfl,?_⟩;have hnb14:=NB655_656.1;have hnc14:=NB656_655.1;have hcz15:=zc_3 (w:=w9) BK655.1)|(go_at_call 94;(with_reducible refine (spec_HartOk.calls k _ _ l1_0 a1_1 a1_2 true _ ?side1 ?side2 A12.1).mono ?_);(case side1=>repeat (first|exact (Kd.C_below HR1_0.1 zB0)|(with_reducible refine Kd.C_alloc ?_ _)|(with_reducible refine Kd.C_drewN ?_ _)|(with_reducible refine Kd.C_drew ?_)));(case side2=>exact HC1_0.1);rintro e w16 ⟨rfl,hb⟩;replace HO662:=zM (Kd.R_below (zR HO662.1) hb);replace BK655:=zM (zb BK655.1 hb);replace BK656:=zM (zb BK656.1 hb);replace HB:=zM (below_step zB0 hb);clear hb;have hcz17:=zc_3 (w:=w16) BK655.1))
  go_meet
  case rel=>exact ⟨_,((a1_2 != 0)),zJJ,H',⟨by first|omega|exact Nat.le_refl _⟩,⟨zR HO662.1⟩,⟨zK BK655.1⟩,⟨zK BK656.1⟩,⟨zB0⟩⟩
 case rest=>
  clear HC4
  obtain ⟨kq,x28_3,rfl,HA,HJ3,HO_6,BK655,BK656,HB⟩:=hcut
  cases kq with
  |zero=>exact absurd HA.1 (by simp [spec_FlatStep.j0])
  |succ kj3=>
   have H:=HA.1
   clear HA
   simp only [spec_FlatStep.j0] at H
   by_cases c21:x28_3=true
   ·subst c21
    rw [if_pos rfl] at H
    replace H:=zO H
    obtain ⟨⟨t665,t668,t669⟩,A22,H⟩:=H
    try dsimp only at H
    simp only [Option.some.injEq,Prod.mk.injEq] at H
    obtain ⟨rfl,rfl,rfl,rfl⟩:=H
    have hnb23:=NB655_656.1
    have hnc23:=NB656_655.1
    have hcz24:=zc_3 (w:=wc) BK655.1
    go_wp2_with (first|((with_reducible refine zG Try.func104 31 #[.agg #[.slice A1_0 l1_0.length c1_0,.int .i64 a1_1,.int .i64 a1_2]] ?_);(with_reducible refine (spec_l9Copy.calls _ _ l1_0 a1_1 a1_2 t665 t668 t669 _ ?side1 ?side2 A22.1).mono ?_);(case side1=>exact zC (Kd.C_below HR1_0.1 HB.1));(case side2=>exact HC1_0.1);rintro e w25 ⟨v666,rfl,ho0,hb⟩;refine ⟨_,rfl,?_⟩;have HO667:=zM (Kd.R_lower (Kd.R_new' ho0 (Kd.R_lt (zR HO_6.1))) (below_size zB0));replace HO_6:=zM (Kd.R_elder' (zR HO_6.1) (Kd.R_base ho0) hb);replace BK655:=zM (zb BK655.1 hb);replace BK656:=zM (zb BK656.1 hb);replace HB:=zM (below_step zB0 hb);clear hb ho0;obtain ⟨Ao26,co26,eo26⟩:=Kd.R_slice HO667.1;subst eo26;have hcz27:=zc_3 (w:=w25) BK656.1))
    refine bodyPost_ret (results_tc rfl _ _ gb656 53 #[.slice Ao26 t665.length co26,.int .i64 t668,.int .i64 t669] (0,0) _ rfl (by exact zp3 (zK BK656.1)) Try.underlying53 rfl (by kernel_rfl)) rfl ?_
    exact ⟨_,_,zE,by refine zrR ?_;exact Kd.R_mono (zfR (zfR (zfR (Kd.R_types HO_6.1 BK656.1 (by decide))))) (fun _ hk=>hk.1.2),by refine zrR ?_;exact Kd.R_mono (zfR (zfR (zfR (Kd.R_types HO667.1 BK656.1 (by decide))))) (fun _ hk=>hk.1.2),zB0⟩
   replace c21:=Bool.eq_false_iff.mpr c21
   subst c21
   rw [if_neg zF] at H
   replace H:=zIt H
   obtain ⟨c28b0,H⟩:=H
   replace H:=zIt H
   obtain ⟨c29b0,H⟩:=H
   replace H:=zO H
   obtain ⟨⟨t671,t672,t673,t674,t675,t676⟩,A30,H⟩:=H
   try dsimp only at H
   replace H:=zO H
   obtain ⟨t678,A31,H⟩:=H
   by_cases c32:t678≥0
   rotate_left
   ·rw [if_neg c32] at H
    have c32b0:=decide_eq_false c32
    clear c32
    replace H:=zO H
    obtain ⟨⟨t688,t691,t692,t693⟩,A87,H⟩:=H
    try dsimp only at H
    by_cases c88:t693≥0
    rotate_left
    ·rw [if_neg c88] at H
     have c88b0:=decide_eq_false c88
     clear c88
     simp only [Option.some.injEq,Prod.mk.injEq] at H
     obtain ⟨rfl,rfl,rfl,rfl⟩:=H
     have hnb117:=NB655_656.1
     have hnc117:=NB656_655.1
     have hcz118:=zc_3 (w:=wc) BK655.1
     obtain ⟨p670,q670,ad670,e670,hx670_0⟩:=zRd (Kd.at_int HR0.1 a1_1)
     cases e670
     replace hx670_0:=zHx HB.1 hx670_0
     try go_wp2_with (first|((with_reducible refine zG Try.func106 38 #[.int .i64 (rd l0 a1_1)] ?_);(with_reducible refine (spec_Decode.calls (rd l0 a1_1) t671 t672 t673 t674 t675 t676 _ A30.1).mono ?_);rintro e w119 ⟨rfl,hb⟩;refine ⟨_,rfl,?_⟩;replace HO_6:=zM (Kd.R_below (zR HO_6.1) hb);replace BK655:=zM (zb BK655.1 hb);replace BK656:=zM (zb BK656.1 hb);replace HB:=zM (below_step zB0 hb);clear hb)|((with_reducible refine zBx 7 109 #[.int .i64 0,.int .i64 0,.int .i64 0,.int .i64 0,.int .i64 0] ?_);intro gb677 hg w120 hbox hb;replace HO_6:=zM (Kd.R_below (zR HO_6.1) hb);have BK677:=zM hbox;have GW677:=zM (zW hg (below_size zB0));have GE677:=zM (zW hg (below_size zB0));replace HB:=zM (below_step zB0 hb);have NB655_677:=zM ((zn BK655.1 hg:gb655≠gb677));have NB677_655:=zM ((zm BK655.1 hg:gb677≠gb655));replace BK655:=zM (zb BK655.1 hb);have NB656_677:=zM ((zn BK656.1 hg:gb656≠gb677));have NB677_656:=zM ((zm BK656.1 hg:gb677≠gb656));replace BK656:=zM (zb BK656.1 hb);clear hb hbox hg;have hnb121:=NB677_655.1;have hnc121:=NB655_677.1;have hnb122:=NB677_656.1;have hnc122:=NB656_677.1;have hcz123:=zc_5 (w:=w120) BK677.1;have hcz124:=zc_3 (w:=w120) BK655.1)|((with_reducible refine zG Try.func107 44 #[.agg #[.int .i64 t671,.int .i64 t672,.int .i64 t673,.int .i64 t674,.int .i64 t675],.slice A1_0 l1_0.length c1_0] ?_);(with_reducible refine (spec_Target.calls t671 t672 t673 t674 t675 _ _ l1_0 t678 _ ?side1 ?side2 A31.1).mono ?_);(case side1=>exact Kd.C_below HR1_0.1 zB0);(case side2=>exact HC1_0.1);rintro e w125 ⟨rfl,hb⟩;refine ⟨_,rfl,?_⟩;replace HO_6:=zM (Kd.R_below (by refine zrR ?_;exact (Kd.R_mono (zfR (zfR (zfR (zfR (zfR (Kd.R_types HO_6.1 BK677.1 (by decide))))))) (fun _ h_=>h_.1))) hb);replace BK655:=zM (zf BK655.1 hb);replace BK656:=zM (zf BK656.1 hb);replace BK677:=zM (blk_below (g:=gb677) (o:= .cells #[.int .i64 t671,.int .i64 t672,.int .i64 t673,.int .i64 t674,.int .i64 t675] 109 (0,0)) (by exact zp5 (zK BK677.1)) hb);replace HB:=zM (below_step zB0 hb);clear hb;have hcz126:=zc_3 (w:=w125) BK655.1;have hcz127:=zc_5 (w:=w125) BK677.1)|((with_reducible refine zG Try.func108 55 #[.agg #[.slice A1_0 l1_0.length c1_0,.int .i64 a1_1,.int .i64 a1_2],.agg #[.int .i64 t671,.int .i64 t672,.int .i64 t673,.int .i64 t674,.int .i64 t675],.int .i64 0] ?_);(with_reducible refine (spec_Work.calls kj3 _ _ l1_0 a1_1 a1_2 t671 t672 t673 t674 t675 0 t688 t691 t692 t693 _ ?side1 ?side2 A87.1).mono ?_);(case side1=>exact zC (Kd.C_below HR1_0.1 HB.1));(case side2=>exact HC1_0.1);rintro e w128 ⟨v689,rfl,ho0,hb⟩;refine ⟨_,rfl,?_⟩;have HO690:=zM (Kd.R_lower (Kd.R_new' ho0 (Kd.R_lt (zR HO_6.1))) (below_size zB0));replace HO_6:=zM (Kd.R_elder' (zR HO_6.1) (Kd.R_base ho0) hb);replace BK655:=zM (zb BK655.1 hb);replace BK656:=zM (zb BK656.1 hb);replace BK677:=zM (zb BK677.1 hb);replace HB:=zM (below_step zB0 hb);clear hb ho0)|((with_reducible refine zBx 11 53 #[.slice none 0 0,.int .i64 0,.int .i64 0] ?_);intro gb694 hg w129 hbox hb;replace HO_6:=zM (Kd.R_below (zR HO_6.1) hb);replace HO690:=zM (Kd.R_below (zR HO690.1) hb);have BK694:=zM hbox;have GW694:=zM (zW hg (below_size zB0));have GE694:=zM (zW hg (below_size zB0));replace HB:=zM (below_step zB0 hb);have NB655_694:=zM ((zn BK655.1 hg:gb655≠gb694));have NB694_655:=zM ((zm BK655.1 hg:gb694≠gb655));replace BK655:=zM (zb BK655.1 hb);have NB656_694:=zM ((zn BK656.1 hg:gb656≠gb694));have NB694_656:=zM ((zm BK656.1 hg:gb694≠gb656));replace BK656:=zM (zb BK656.1 hb);have NB677_694:=zM ((zn BK677.1 hg:gb677≠gb694));have NB694_677:=zM ((zm BK677.1 hg:gb694≠gb677));replace BK677:=zM (zb BK677.1 hb);clear hb hbox hg;obtain ⟨Ao130,co130,eo130⟩:=Kd.R_slice HO690.1;subst eo130;have hnb131:=NB694_655.1;have hnc131:=NB655_694.1;have hnb132:=NB694_656.1;have hnc132:=NB656_694.1;have hnb133:=NB694_677.1;have hnc133:=NB677_694.1;have hcz134:=zc_3 (w:=w129) BK694.1))
     generalize hw_:(((w129.setCell ⟨gb694,0,none⟩ (.slice Ao130 t688.length co130)).setCell ⟨gb694,1,none⟩ (.int .i64 t691)).setCell ⟨gb694,2,none⟩ (.int .i64 t692))=w135
     have n0_:Aside0 (Kd.R (Kd.int .i64) 3 w135 w.heap.size (fun k_=>some k_≠(.slice Ao130 t688.length co130:Value).ownBlock) v661 y660):=⟨by rw [←hw_];refine zrR ?_;exact Kd.R_mono (zfR (zfR (zfR (Kd.R_types HO_6.1 BK694.1 (by decide))))) (fun _ hk=>hk.1.2)⟩
     have n1_:Aside0 (Kd.R (Kd.int .i64) 3 w135 w.heap.size (fun k_=>some k_≠(v661:Value).ownBlock) (.slice Ao130 t688.length co130) t688):=⟨by rw [←hw_];refine zrR ?_;exact Kd.R_mono (zfR (zfR (zfR (Kd.R_types HO690.1 BK694.1 (by decide))))) (fun _ hk=>hk.1.2)⟩
     have n2_:Aside0 (w135.heap[gb655]? =some (.cells #[.slice A1_0 l1_0.length c1_0,.int .i64 a1_1,.int .i64 a1_2] 53 (0,0))):=⟨by rw [←hw_];exact zPq⟩
     have n3_:Aside0 (w135.heap[gb656]? =some (.cells #[.slice none 0 0,.int .i64 0,.int .i64 0] 53 (0,0))):=⟨by rw [←hw_];exact zPq⟩
     have n4_:Aside0 (w135.heap[gb677]? =some (.cells #[.int .i64 t671,.int .i64 t672,.int .i64 t673,.int .i64 t674,.int .i64 t675] 109 (0,0))):=⟨by rw [←hw_];exact zPq⟩
     have n5_:Aside0 (w135.heap[gb694]? =some (.cells #[.slice Ao130 t688.length co130,.int .i64 t691,.int .i64 t692] 53 (0,0))):=⟨by rw [←hw_];exact zp3 (zK BK694.1)⟩
     have n6_:Aside0 (Below w.heap.size w w135):=⟨by rw [←hw_];exact zB0⟩
     (try clear HO_6)
     (try clear HO690)
     (try clear BK655)
     (try clear BK656)
     (try clear BK677)
     (try clear BK694)
     (try clear HB)
     clear hw_
     have HO_6:=n0_
     have HO690:=n1_
     have BK655:=n2_
     have BK656:=n3_
     have BK677:=n4_
     have BK694:=n5_
     have HB:=n6_
     clear n0_ n1_ n2_ n3_ n4_ n5_ n6_
     replace HO_6:=zM (Kd.R_drew HO_6.1)
     replace HO690:=zM (Kd.R_drew HO690.1)
     replace BK655:=zM (blk_drew BK655.1)
     replace BK656:=zM (blk_drew BK656.1)
     replace BK677:=zM (blk_drew BK677.1)
     replace BK694:=zM (blk_drew BK694.1)
     replace HB:=zM (below_drew1 HB.1)
     refine start_ (n:=4) (S:=fun w'=>w'.cell? ⟨gb694,0,none⟩=some (.slice Ao130 t688.length co130)∧w'.cell? ⟨gb694,1,none⟩=some (.int .i64 t691)∧w'.cell? ⟨gb694,2,none⟩=some (.int .i64 t692)) (ds:=[]) #[false,false,false,false] (by kernel_rfl) rfl rfl ⟨(blk_cell BK694.1 0).trans rfl,(blk_cell BK694.1 1).trans rfl,(blk_cell BK694.1 2).trans rfl⟩ (fun hHeld=>?_)
     generalize w135.drew=w136 at HO_6 HO690 BK655 BK656 BK677 BK694 HB hHeld ⊢
     refine zPu 0 ?_
     refine zPu 2 ?_
     refine zTk3 1 hHeld ?_
     refine zOn 3 none fun K hK=>?_
     obtain ⟨hs137,hfs137⟩:=zHs BK656.1 0
     have hns137_0:=NB655_656.1
     have hns137_2:=NB677_656.1
     have hns137_3:=NB694_656.1
     have hms137_0:=NB656_655.1
     have hms137_2:=NB656_677.1
     have hms137_3:=NB656_694.1
     obtain ⟨hs138,hfs138⟩:=zHs BK656.1 1
     have hns138_0:=NB655_656.1
     have hns138_2:=NB677_656.1
     have hns138_3:=NB694_656.1
     have hms138_0:=NB656_655.1
     have hms138_2:=NB656_677.1
     have hms138_3:=NB656_694.1
     obtain ⟨hs139,hfs139⟩:=zHs BK656.1 2
     have hns139_0:=NB655_656.1
     have hns139_2:=NB677_656.1
     have hns139_3:=NB694_656.1
     have hms139_0:=NB656_655.1
     have hms139_2:=NB656_677.1
     have hms139_3:=NB656_694.1
     refine skip_ (w1:=?_) (by rfl) rfl ?_ ?_
     rotate_left
     ·go_simp
      rfl
     refine hK.out _ _ zCs fun hHeld=>?_
     clear hK K
     refine done_ (by kernel_rfl) ?_
     try go_wp2
     refine bodyPost_ret (results_tc rfl _ _ gb656 53 #[.slice Ao130 t688.length co130,.int .i64 t691,.int .i64 t692] (0,0) _ rfl (by exact zp3 (zK BK656.1)) Try.underlying53 rfl (by kernel_rfl)) rfl ?_
     exact ⟨_,_,zE,by refine zrR ?_;exact Kd.R_mono (zfR (zfR (zfR (Kd.R_types HO_6.1 BK656.1 (by decide))))) (fun _ hk=>hk.1),by refine zrR ?_;exact Kd.R_mono (zfR (zfR (zfR (Kd.R_types HO690.1 BK656.1 (by decide))))) (fun _ hk=>hk.1),zB0⟩
    rw [if_pos c88] at H
    have c88b0:=decide_eq_true c88
    clear c88
    replace H:=zIt H
    obtain ⟨c89b0,H⟩:=H
    replace H:=zIt H
    obtain ⟨c90b0,H⟩:=H
    generalize hy695:((y660.set (t678:Int).toNat t693):List Int)=y695 at H
    have Ny695:=zM hy695.symm
    clear hy695
    simp only [Option.some.injEq,Prod.mk.injEq] at H
    obtain ⟨rfl,rfl,rfl,rfl⟩:=H
    have hnb92:=NB655_656.1
    have hnc92:=NB656_655.1
    have hcz93:=zc_3 (w:=wc) BK655.1
    obtain ⟨p670,q670,ad670,e670,hx670_0⟩:=zRd (Kd.at_int HR0.1 a1_1)
    cases e670
    replace hx670_0:=zHx HB.1 hx670_0
    try go_wp2_with (first|((with_reducible refine zG Try.func106 38 #[.int .i64 (rd l0 a1_1)] ?_);(with_reducible refine (spec_Decode.calls (rd l0 a1_1) t671 t672 t673 t674 t675 t676 _ A30.1).mono ?_);rintro e w94 ⟨rfl,hb⟩;refine ⟨_,rfl,?_⟩;replace HO_6:=zM (Kd.R_below (zR HO_6.1) hb);replace BK655:=zM (zb BK655.1 hb);replace BK656:=zM (zb BK656.1 hb);replace HB:=zM (below_step zB0 hb);clear hb)|((with_reducible refine zBx 7 109 #[.int .i64 0,.int .i64 0,.int .i64 0,.int .i64 0,.int .i64 0] ?_);intro gb677 hg w95 hbox hb;replace HO_6:=zM (Kd.R_below (zR HO_6.1) hb);have BK677:=zM hbox;have GW677:=zM (zW hg (below_size zB0));have GE677:=zM (zW hg (below_size zB0));replace HB:=zM (below_step zB0 hb);have NB655_677:=zM ((zn BK655.1 hg:gb655≠gb677));have NB677_655:=zM ((zm BK655.1 hg:gb677≠gb655));replace BK655:=zM (zb BK655.1 hb);have NB656_677:=zM ((zn BK656.1 hg:gb656≠gb677));have NB677_656:=zM ((zm BK656.1 hg:gb677≠gb656));replace BK656:=zM (zb BK656.1 hb);clear hb hbox hg;have hnb96:=NB677_655.1;have hnc96:=NB655_677.1;have hnb97:=NB677_656.1;have hnc97:=NB656_677.1;have hcz98:=zc_5 (w:=w95) BK677.1;have hcz99:=zc_3 (w:=w95) BK655.1)|((with_reducible refine zG Try.func107 44 #[.agg #[.int .i64 t671,.int .i64 t672,.int .i64 t673,.int .i64 t674,.int .i64 t675],.slice A1_0 l1_0.length c1_0] ?_);(with_reducible refine (spec_Target.calls t671 t672 t673 t674 t675 _ _ l1_0 t678 _ ?side1 ?side2 A31.1).mono ?_);(case side1=>exact Kd.C_below HR1_0.1 zB0);(case side2=>exact HC1_0.1);rintro e w100 ⟨rfl,hb⟩;refine ⟨_,rfl,?_⟩;replace HO_6:=zM (Kd.R_below (by refine zrR ?_;exact (Kd.R_mono (zfR (zfR (zfR (zfR (zfR (Kd.R_types HO_6.1 BK677.1 (by decide))))))) (fun _ h_=>h_.1))) hb);replace BK655:=zM (zf BK655.1 hb);replace BK656:=zM (zf BK656.1 hb);replace BK677:=zM (blk_below (g:=gb677) (o:= .cells #[.int .i64 t671,.int .i64 t672,.int .i64 t673,.int .i64 t674,.int .i64 t675] 109 (0,0)) (by exact zp5 (zK BK677.1)) hb);replace HB:=zM (below_step zB0 hb);clear hb;have hcz101:=zc_3 (w:=w100) BK655.1;have hcz102:=zc_5 (w:=w100) BK677.1)|((with_reducible refine zG Try.func108 55 #[.agg #[.slice A1_0 l1_0.length c1_0,.int .i64 a1_1,.int .i64 a1_2],.agg #[.int .i64 t671,.int .i64 t672,.int .i64 t673,.int .i64 t674,.int .i64 t675],.int .i64 0] ?_);(with_reducible refine (spec_Work.calls kj3 _ _ l1_0 a1_1 a1_2 t671 t672 t673 t674 t675 0 t688 t691 t692 t693 _ ?side1 ?side2 A87.1).mono ?_);(case side1=>exact zC (Kd.C_below HR1_0.1 HB.1));(case side2=>exact HC1_0.1);rintro e w103 ⟨v689,rfl,ho0,hb⟩;refine ⟨_,rfl,?_⟩;have HO690:=zM (Kd.R_lower (Kd.R_new' ho0 (Kd.R_lt (zR HO_6.1))) (below_size zB0));replace HO_6:=zM (Kd.R_elder' (zR HO_6.1) (Kd.R_base ho0) hb);replace BK655:=zM (zb BK655.1 hb);replace BK656:=zM (zb BK656.1 hb);replace BK677:=zM (zb BK677.1 hb);replace HB:=zM (below_step zB0 hb);clear hb ho0)|((with_reducible refine zBx 11 53 #[.slice none 0 0,.int .i64 0,.int .i64 0] ?_);intro gb694 hg w104 hbox hb;replace HO_6:=zM (Kd.R_below (zR HO_6.1) hb);replace HO690:=zM (Kd.R_below (zR HO690.1) hb);have BK694:=zM hbox;have GW694:=zM (zW hg (below_size zB0));have GE694:=zM (zW hg (below_size zB0));replace HB:=zM (below_step zB0 hb);have NB655_694:=zM ((zn BK655.1 hg:gb655≠gb694));have NB694_655:=zM ((zm BK655.1 hg:gb694≠gb655));replace BK655:=zM (zb BK655.1 hb);have NB656_694:=zM ((zn BK656.1 hg:gb656≠gb694));have NB694_656:=zM ((zm BK656.1 hg:gb694≠gb656));replace BK656:=zM (zb BK656.1 hb);have NB677_694:=zM ((zn BK677.1 hg:gb677≠gb694));have NB694_677:=zM ((zm BK677.1 hg:gb694≠gb677));replace BK677:=zM (zb BK677.1 hb);clear hb hbox hg;obtain ⟨Ao105,co105,eo105⟩:=Kd.R_slice HO690.1;subst eo105;have hnb106:=NB694_655.1;have hnc106:=NB655_694.1;have hnb107:=NB694_656.1;have hnc107:=NB656_694.1;have hnb108:=NB694_677.1;have hnc108:=NB677_694.1;have hcz109:=zc_3 (w:=w104) BK694.1)|((with_reducible refine gate_store (t:=53) (p:=11) rfl ?_);refine store_event (t:=53) (p:=11) (v:=?vo_w110) (w1:=(((w104.setCell ⟨gb694,0,none⟩ (.slice Ao105 t688.length co105)).setCell ⟨gb694,1,none⟩ (.int .i64 t691)).setCell ⟨gb694,2,none⟩ (.int .i64 t692))) ?hg ?ho ?hn ?hr ?_;(case ho=>rfl);(case hg=>rfl);(case hn=>rfl);(case hr=>exact zHH);intro w110 hw;have n0_:Aside0 (Kd.R (Kd.int .i64) 3 w110 w.heap.size (fun k_=>some k_≠(.slice Ao105 t688.length co105:Value).ownBlock) v661 y660):=⟨(by rw [hw];exact (by refine zrR ?_;exact Kd.R_mono (zfR (zfR (zfR (Kd.R_types HO_6.1 BK694.1 (by decide))))) (fun _ hk=>hk.1.2)))⟩;have n1_:Aside0 (Kd.R (Kd.int .i64) 3 w110 w.heap.size (fun k_=>some k_≠(v661:Value).ownBlock) (.slice Ao105 t688.length co105) t688):=⟨(by rw [hw];exact (by refine zrR ?_;exact Kd.R_mono (zfR (zfR (zfR (Kd.R_types HO690.1 BK694.1 (by decide))))) (fun _ hk=>hk.1.2)))⟩;have n2_:Aside0 (w110.heap[gb655]? =some (.cells #[.slice A1_0 l1_0.length c1_0,.int .i64 a1_1,.int .i64 a1_2] 53 (0,0))):=⟨(by rw [hw];exact zPq)⟩;have n3_:Aside0 (w110.heap[gb656]? =some (.cells #[.slice none 0 0,.int .i64 0,.int .i64 0] 53 (0,0))):=⟨(by rw [hw];exact zPq)⟩;have n4_:Aside0 (w110.heap[gb677]? =some (.cells #[.int .i64 t671,.int .i64 t672,.int .i64 t673,.int .i64 t674,.int .i64 t675] 109 (0,0))):=⟨(by rw [hw];exact zPq)⟩;have n5_:Aside0 (w110.heap[gb694]? =some (.cells #[.slice Ao105 t688.length co105,.int .i64 t691,.int .i64 t692] 53 (0,0))):=⟨(by rw [hw];exact (by exact zp3 (zK BK694.1)))⟩;have n6_:Aside0 (Below w.heap.size w w110):=⟨(by rw [hw];exact zB0)⟩;clear hw;clear HO_6;clear HO690;clear BK655;clear BK656;clear BK677;clear BK694;clear HB;have HO_6:=n0_;have HO690:=n1_;have BK655:=n2_;have BK656:=n3_;have BK677:=n4_;have BK694:=n5_;have HB:=n6_;clear n0_ n1_ n2_ n3_ n4_ n5_ n6_;have p91:0≤(t678:Int):=zA;have q91:(t678:Int)<((y660.length:Int):Int):=zA;obtain ⟨go91,co91,eo91,gb91,gl91,cl91,HG91⟩:=Kd.R_form HO_6.1 (by omega);(first|cases eo91|(injection eo91 with ea_ en_ ec_;(first|subst ea_|(injection ea_ with ea_;subst ea_));subst ec_;clear en_));have GB91:=zM gb91;have GG91:=zM HG91;clear gb91 gl91 HG91;obtain ⟨hx91_0,hf91_0⟩:=Kd.R_celln 0 HO_6.1 (t678:Int) p91 q91;replace p91:=eq_true p91;replace q91:=eq_true q91;obtain ⟨hy111_,hz111_⟩:=Kd.R_celln 0 HO_6.1 (t678:Int) zA zA;have HP111:=Kd.R_putg HO_6.1 (t678:Int) t693)|((with_reducible refine gate_store (t:=3) (p:=63) rfl ?_);refine store_event (t:=3) (p:=63) (v:=?vo_w112) (w1:=(w110.setCell ⟨go91,(t678:Int).toNat,none⟩ (.int .i64 t693))) ?hg ?ho ?hn ?hr ?_;(case ho=>rfl);(case hg=>rfl);(case hn=>rfl);(case hr=>exact zHH);intro w112 hw;have hg:w110.grownBy w112 (some go91):=(by rw [hw];exact HP111.2);have hp_:Kd.R (Kd.int .i64) 3 w112 w.heap.size (fun k_=>some k_≠(.slice Ao105 t688.length co105:Value).ownBlock) (.slice (some ⟨go91,0,none⟩) y660.length co91) y695:=(by rw [hw,Ny695.1];exact HP111.1);clear HP111;replace BK655:=zM (zg BK655.1 hg (Kd.R_ne HO_6.1 BK655.1 (by decide)));replace BK656:=zM (zg BK656.1 hg (Kd.R_ne HO_6.1 BK656.1 (by decide)));replace BK677:=zM (zg BK677.1 hg (Kd.R_ne HO_6.1 BK677.1 (by decide)));replace HO690:=zM (Kd.R_after (v:=(.slice (some ⟨go91,0,none⟩) y660.length co91)) (v1:=(.slice (some ⟨go91,0,none⟩) y660.length co91)) (ok:=(fun _=>True)) (by refine zrR ?_;exact Kd.R_mono HO690.1 (fun _ hk=>⟨trivial,hk⟩)) hg (.inl rfl));replace BK694:=zM (zg BK694.1 hg (Kd.R_ne HO_6.1 BK694.1 (by decide)));replace HO_6:=zM hp_;replace HB:=zM ((by rw [hw];exact below_set (HB.1) GB91.1:Below w.heap.size w w112));clear hg hw hp_))
    replace HO_6:=zM (Kd.R_drew HO_6.1)
    replace HO690:=zM (Kd.R_drew HO690.1)
    replace BK655:=zM (blk_drew BK655.1)
    replace BK656:=zM (blk_drew BK656.1)
    replace BK677:=zM (blk_drew BK677.1)
    replace BK694:=zM (blk_drew BK694.1)
    replace HB:=zM (below_drew1 HB.1)
    refine start_ (n:=4) (S:=fun w'=>w'.cell? ⟨gb694,0,none⟩=some (.slice Ao105 t688.length co105)∧w'.cell? ⟨gb694,1,none⟩=some (.int .i64 t691)∧w'.cell? ⟨gb694,2,none⟩=some (.int .i64 t692)) (ds:=[]) #[false,false,false,false] (by kernel_rfl) rfl rfl ⟨(blk_cell BK694.1 0).trans rfl,(blk_cell BK694.1 1).trans rfl,(blk_cell BK694.1 2).trans rfl⟩ (fun hHeld=>?_)
    generalize w112.drew=w113 at HO_6 HO690 BK655 BK656 BK677 BK694 HB hHeld ⊢
    refine zPu 0 ?_
    refine zPu 2 ?_
    refine zTk3 1 hHeld ?_
    refine zOn 3 none fun K hK=>?_
    obtain ⟨hs114,hfs114⟩:=zHs BK656.1 0
    have hns114_0:=NB655_656.1
    have hns114_2:=NB677_656.1
    have hns114_3:=NB694_656.1
    have hms114_0:=NB656_655.1
    have hms114_2:=NB656_677.1
    have hms114_3:=NB656_694.1
    obtain ⟨hs115,hfs115⟩:=zHs BK656.1 1
    have hns115_0:=NB655_656.1
    have hns115_2:=NB677_656.1
    have hns115_3:=NB694_656.1
    have hms115_0:=NB656_655.1
    have hms115_2:=NB656_677.1
    have hms115_3:=NB656_694.1
    obtain ⟨hs116,hfs116⟩:=zHs BK656.1 2
    have hns116_0:=NB655_656.1
    have hns116_2:=NB677_656.1
    have hns116_3:=NB694_656.1
    have hms116_0:=NB656_655.1
    have hms116_2:=NB656_677.1
    have hms116_3:=NB656_694.1
    refine skip_ (w1:=?_) (by rfl) rfl ?_ ?_
    rotate_left
    ·go_simp
     rfl
    refine hK.out _ _ zCs fun hHeld=>?_
    clear hK K
    refine done_ (by kernel_rfl) ?_
    try go_wp2
    refine bodyPost_ret (results_tc rfl _ _ gb656 53 #[.slice Ao105 t688.length co105,.int .i64 t691,.int .i64 t692] (0,0) _ rfl (by exact zp3 (zK BK656.1)) Try.underlying53 rfl (by kernel_rfl)) rfl ?_
    exact ⟨_,_,zE,by refine zrR ?_;exact Kd.R_mono (zfR (zfR (zfR (Kd.R_types HO_6.1 BK656.1 (by decide))))) (fun _ hk=>hk.1),by refine zrR ?_;exact Kd.R_mono (zfR (zfR (zfR (Kd.R_types HO690.1 BK656.1 (by decide))))) (fun _ hk=>hk.1.2),zB0⟩
   rw [if_pos c32] at H
   have c32b0:=decide_eq_true c32
   clear c32
   replace H:=zIt H
   obtain ⟨c33b0,H⟩:=H
   replace H:=zIt H
   obtain ⟨c34b0,H⟩:=H
   replace H:=zO H
   obtain ⟨⟨t680,t683,t684,t685⟩,A35,H⟩:=H
   try dsimp only at H
   by_cases c36:t685≥0
   rotate_left
   ·rw [if_neg c36] at H
    have c36b0:=decide_eq_false c36
    clear c36
    simp only [Option.some.injEq,Prod.mk.injEq] at H
    obtain ⟨rfl,rfl,rfl,rfl⟩:=H
    have hnb64:=NB655_656.1
    have hnc64:=NB656_655.1
    have hcz65:=zc_3 (w:=wc) BK655.1
    obtain ⟨p670,q670,ad670,e670,hx670_0⟩:=zRd (Kd.at_int HR0.1 a1_1)
    cases e670
    replace hx670_0:=zHx HB.1 hx670_0
    try go_wp2_with (first|((with_reducible refine zG Try.func106 38 #[.int .i64 (rd l0 a1_1)] ?_);(with_reducible refine (spec_Decode.calls (rd l0 a1_1) t671 t672 t673 t674 t675 t676 _ A30.1).mono ?_);rintro e w66 ⟨rfl,hb⟩;refine ⟨_,rfl,?_⟩;replace HO_6:=zM (Kd.R_below (zR HO_6.1) hb);replace BK655:=zM (zb BK655.1 hb);replace BK656:=zM (zb BK656.1 hb);replace HB:=zM (below_step zB0 hb);clear hb)|((with_reducible refine zBx 7 109 #[.int .i64 0,.int .i64 0,.int .i64 0,.int .i64 0,.int .i64 0] ?_);intro gb677 hg w67 hbox hb;replace HO_6:=zM (Kd.R_below (zR HO_6.1) hb);have BK677:=zM hbox;have GW677:=zM (zW hg (below_size zB0));have GE677:=zM (zW hg (below_size zB0));replace HB:=zM (below_step zB0 hb);have NB655_677:=zM ((zn BK655.1 hg:gb655≠gb677));have NB677_655:=zM ((zm BK655.1 hg:gb677≠gb655));replace BK655:=zM (zb BK655.1 hb);have NB656_677:=zM ((zn BK656.1 hg:gb656≠gb677));have NB677_656:=zM ((zm BK656.1 hg:gb677≠gb656));replace BK656:=zM (zb BK656.1 hb);clear hb hbox hg;have hnb68:=NB677_655.1;have hnc68:=NB655_677.1;have hnb69:=NB677_656.1;have hnc69:=NB656_677.1;have hcz70:=zc_5 (w:=w67) BK677.1;have hcz71:=zc_3 (w:=w67) BK655.1)|((with_reducible refine zG Try.func107 44 #[.agg #[.int .i64 t671,.int .i64 t672,.int .i64 t673,.int .i64 t674,.int .i64 t675],.slice A1_0 l1_0.length c1_0] ?_);(with_reducible refine (spec_Target.calls t671 t672 t673 t674 t675 _ _ l1_0 t678 _ ?side1 ?side2 A31.1).mono ?_);(case side1=>exact Kd.C_below HR1_0.1 zB0);(case side2=>exact HC1_0.1);rintro e w72 ⟨rfl,hb⟩;refine ⟨_,rfl,?_⟩;replace HO_6:=zM (Kd.R_below (by refine zrR ?_;exact (Kd.R_mono (zfR (zfR (zfR (zfR (zfR (Kd.R_types HO_6.1 BK677.1 (by decide))))))) (fun _ h_=>h_.1))) hb);replace BK655:=zM (zf BK655.1 hb);replace BK656:=zM (zf BK656.1 hb);replace BK677:=zM (blk_below (g:=gb677) (o:= .cells #[.int .i64 t671,.int .i64 t672,.int .i64 t673,.int .i64 t674,.int .i64 t675] 109 (0,0)) (by exact zp5 (zK BK677.1)) hb);replace HB:=zM (below_step zB0 hb);clear hb;have p679:0≤(t678:Int):=zA;have q679:t678<(l0.length:Int):=zA;obtain ⟨ad679,e679,hx679_0⟩:=Kd.at_int HR0.1 t678 p679 q679;obtain rfl:ad670=ad679:=(by injection e679);replace hx679_0:=zHx HB.1 hx679_0;replace p679:=eq_true p679;replace q679:=eq_true q679;have hcz73:=zc_3 (w:=w72) BK655.1;have hcz74:=zc_5 (w:=w72) BK677.1)|((with_reducible refine zG Try.func108 55 #[.agg #[.slice A1_0 l1_0.length c1_0,.int .i64 a1_1,.int .i64 a1_2],.agg #[.int .i64 t671,.int .i64 t672,.int .i64 t673,.int .i64 t674,.int .i64 t675],.int .i64 (rd l0 t678)] ?_);(with_reducible refine (spec_Work.calls kj3 _ _ l1_0 a1_1 a1_2 t671 t672 t673 t674 t675 (rd l0 t678) t680 t683 t684 t685 _ ?side1 ?side2 A35.1).mono ?_);(case side1=>exact zC (Kd.C_below HR1_0.1 HB.1));(case side2=>exact HC1_0.1);rintro e w75 ⟨v681,rfl,ho0,hb⟩;refine ⟨_,rfl,?_⟩;have HO682:=zM (Kd.R_lower (Kd.R_new' ho0 (Kd.R_lt (zR HO_6.1))) (below_size zB0));replace HO_6:=zM (Kd.R_elder' (zR HO_6.1) (Kd.R_base ho0) hb);replace BK655:=zM (zb BK655.1 hb);replace BK656:=zM (zb BK656.1 hb);replace BK677:=zM (zb BK677.1 hb);replace HB:=zM (below_step zB0 hb);clear hb ho0)|((with_reducible refine zBx 11 53 #[.slice none 0 0,.int .i64 0,.int .i64 0] ?_);intro gb686 hg w76 hbox hb;replace HO_6:=zM (Kd.R_below (zR HO_6.1) hb);replace HO682:=zM (Kd.R_below (zR HO682.1) hb);have BK686:=zM hbox;have GW686:=zM (zW hg (below_size zB0));have GE686:=zM (zW hg (below_size zB0));replace HB:=zM (below_step zB0 hb);have NB655_686:=zM ((zn BK655.1 hg:gb655≠gb686));have NB686_655:=zM ((zm BK655.1 hg:gb686≠gb655));replace BK655:=zM (zb BK655.1 hb);have NB656_686:=zM ((zn BK656.1 hg:gb656≠gb686));have NB686_656:=zM ((zm BK656.1 hg:gb686≠gb656));replace BK656:=zM (zb BK656.1 hb);have NB677_686:=zM ((zn BK677.1 hg:gb677≠gb686));have NB686_677:=zM ((zm BK677.1 hg:gb686≠gb677));replace BK677:=zM (zb BK677.1 hb);clear hb hbox hg;obtain ⟨Ao77,co77,eo77⟩:=Kd.R_slice HO682.1;subst eo77;have hnb78:=NB686_655.1;have hnc78:=NB655_686.1;have hnb79:=NB686_656.1;have hnc79:=NB656_686.1;have hnb80:=NB686_677.1;have hnc80:=NB677_686.1;have hcz81:=zc_3 (w:=w76) BK686.1))
    generalize hw_:(((w76.setCell ⟨gb686,0,none⟩ (.slice Ao77 t680.length co77)).setCell ⟨gb686,1,none⟩ (.int .i64 t683)).setCell ⟨gb686,2,none⟩ (.int .i64 t684))=w82
    have n0_:Aside0 (Kd.R (Kd.int .i64) 3 w82 w.heap.size (fun k_=>some k_≠(.slice Ao77 t680.length co77:Value).ownBlock) v661 y660):=⟨by rw [←hw_];refine zrR ?_;exact Kd.R_mono (zfR (zfR (zfR (Kd.R_types HO_6.1 BK686.1 (by decide))))) (fun _ hk=>hk.1.2)⟩
    have n1_:Aside0 (Kd.R (Kd.int .i64) 3 w82 w.heap.size (fun k_=>some k_≠(v661:Value).ownBlock) (.slice Ao77 t680.length co77) t680):=⟨by rw [←hw_];refine zrR ?_;exact Kd.R_mono (zfR (zfR (zfR (Kd.R_types HO682.1 BK686.1 (by decide))))) (fun _ hk=>hk.1.2)⟩
    have n2_:Aside0 (w82.heap[gb655]? =some (.cells #[.slice A1_0 l1_0.length c1_0,.int .i64 a1_1,.int .i64 a1_2] 53 (0,0))):=⟨by rw [←hw_];exact zPq⟩
    have n3_:Aside0 (w82.heap[gb656]? =some (.cells #[.slice none 0 0,.int .i64 0,.int .i64 0] 53 (0,0))):=⟨by rw [←hw_];exact zPq⟩
    have n4_:Aside0 (w82.heap[gb677]? =some (.cells #[.int .i64 t671,.int .i64 t672,.int .i64 t673,.int .i64 t674,.int .i64 t675] 109 (0,0))):=⟨by rw [←hw_];exact zPq⟩
    have n5_:Aside0 (w82.heap[gb686]? =some (.cells #[.slice Ao77 t680.length co77,.int .i64 t683,.int .i64 t684] 53 (0,0))):=⟨by rw [←hw_];exact zp3 (zK BK686.1)⟩
    have n6_:Aside0 (Below w.heap.size w w82):=⟨by rw [←hw_];exact zB0⟩
    (try clear HO_6)
    (try clear HO682)
    (try clear BK655)
    (try clear BK656)
    (try clear BK677)
    (try clear BK686)
    (try clear HB)
    clear hw_
    have HO_6:=n0_
    have HO682:=n1_
    have BK655:=n2_
    have BK656:=n3_
    have BK677:=n4_
    have BK686:=n5_
    have HB:=n6_
    clear n0_ n1_ n2_ n3_ n4_ n5_ n6_
    replace HO_6:=zM (Kd.R_drew HO_6.1)
    replace HO682:=zM (Kd.R_drew HO682.1)
    replace BK655:=zM (blk_drew BK655.1)
    replace BK656:=zM (blk_drew BK656.1)
    replace BK677:=zM (blk_drew BK677.1)
    replace BK686:=zM (blk_drew BK686.1)
    replace HB:=zM (below_drew1 HB.1)
    refine start_ (n:=4) (S:=fun w'=>w'.cell? ⟨gb686,0,none⟩=some (.slice Ao77 t680.length co77)∧w'.cell? ⟨gb686,1,none⟩=some (.int .i64 t683)∧w'.cell? ⟨gb686,2,none⟩=some (.int .i64 t684)) (ds:=[]) #[false,false,false,false] (by kernel_rfl) rfl rfl ⟨(blk_cell BK686.1 0).trans rfl,(blk_cell BK686.1 1).trans rfl,(blk_cell BK686.1 2).trans rfl⟩ (fun hHeld=>?_)
    generalize w82.drew=w83 at HO_6 HO682 BK655 BK656 BK677 BK686 HB hHeld ⊢
    refine zPu 0 ?_
    refine zPu 2 ?_
    refine zTk3 1 hHeld ?_
    refine zOn 3 none fun K hK=>?_
    obtain ⟨hs84,hfs84⟩:=zHs BK656.1 0
    have hns84_0:=NB655_656.1
    have hns84_2:=NB677_656.1
    have hns84_3:=NB686_656.1
    have hms84_0:=NB656_655.1
    have hms84_2:=NB656_677.1
    have hms84_3:=NB656_686.1
    obtain ⟨hs85,hfs85⟩:=zHs BK656.1 1
    have hns85_0:=NB655_656.1
    have hns85_2:=NB677_656.1
    have hns85_3:=NB686_656.1
    have hms85_0:=NB656_655.1
    have hms85_2:=NB656_677.1
    have hms85_3:=NB656_686.1
    obtain ⟨hs86,hfs86⟩:=zHs BK656.1 2
    have hns86_0:=NB655_656.1
    have hns86_2:=NB677_656.1
    have hns86_3:=NB686_656.1
    have hms86_0:=NB656_655.1
    have hms86_2:=NB656_677.1
    have hms86_3:=NB656_686.1
    refine skip_ (w1:=?_) (by rfl) rfl ?_ ?_
    rotate_left
    ·go_simp
     rfl
    refine hK.out _ _ zCs fun hHeld=>?_
    clear hK K
    refine done_ (by kernel_rfl) ?_
    try go_wp2
    refine bodyPost_ret (results_tc rfl _ _ gb656 53 #[.slice Ao77 t680.length co77,.int .i64 t683,.int .i64 t684] (0,0) _ rfl (by exact zp3 (zK BK656.1)) Try.underlying53 rfl (by kernel_rfl)) rfl ?_
    exact ⟨_,_,zE,by refine zrR ?_;exact Kd.R_mono (zfR (zfR (zfR (Kd.R_types HO_6.1 BK656.1 (by decide))))) (fun _ hk=>hk.1),by refine zrR ?_;exact Kd.R_mono (zfR (zfR (zfR (Kd.R_types HO682.1 BK656.1 (by decide))))) (fun _ hk=>hk.1),zB0⟩
   rw [if_pos c36] at H
   have c36b0:=decide_eq_true c36
   clear c36
   replace H:=zIt H
   obtain ⟨c37b0,H⟩:=H
   generalize hy687:((y660.set (t678:Int).toNat t685):List Int)=y687 at H
   have Ny687:=zM hy687.symm
   clear hy687
   simp only [Option.some.injEq,Prod.mk.injEq] at H
   obtain ⟨rfl,rfl,rfl,rfl⟩:=H
   have hnb39:=NB655_656.1
   have hnc39:=NB656_655.1
   have hcz40:=zc_3 (w:=wc) BK655.1
   obtain ⟨p670,q670,ad670,e670,hx670_0⟩:=zRd (Kd.at_int HR0.1 a1_1)
   cases e670
   replace hx670_0:=zHx HB.1 hx670_0
   try go_wp2_with (first|((with_reducible refine zG Try.func106 38 #[.int .i64 (rd l0 a1_1)] ?_);(with_reducible refine (spec_Decode.calls (rd l0 a1_1) t671 t672 t673 t674 t675 t676 _ A30.1).mono ?_);rintro e w41 ⟨rfl,hb⟩;refine ⟨_,rfl,?_⟩;replace HO_6:=zM (Kd.R_below (zR HO_6.1) hb);replace BK655:=zM (zb BK655.1 hb);replace BK656:=zM (zb BK656.1 hb);replace HB:=zM (below_step zB0 hb);clear hb)|((with_reducible refine zBx 7 109 #[.int .i64 0,.int .i64 0,.int .i64 0,.int .i64 0,.int .i64 0] ?_);intro gb677 hg w42 hbox hb;replace HO_6:=zM (Kd.R_below (zR HO_6.1) hb);have BK677:=zM hbox;have GW677:=zM (zW hg (below_size zB0));have GE677:=zM (zW hg (below_size zB0));replace HB:=zM (below_step zB0 hb);have NB655_677:=zM ((zn BK655.1 hg:gb655≠gb677));have NB677_655:=zM ((zm BK655.1 hg:gb677≠gb655));replace BK655:=zM (zb BK655.1 hb);have NB656_677:=zM ((zn BK656.1 hg:gb656≠gb677));have NB677_656:=zM ((zm BK656.1 hg:gb677≠gb656));replace BK656:=zM (zb BK656.1 hb);clear hb hbox hg;have hnb43:=NB677_655.1;have hnc43:=NB655_677.1;have hnb44:=NB677_656.1;have hnc44:=NB656_677.1;have hcz45:=zc_5 (w:=w42) BK677.1;have hcz46:=zc_3 (w:=w42) BK655.1)|((with_reducible refine zG Try.func107 44 #[.agg #[.int .i64 t671,.int .i64 t672,.int .i64 t673,.int .i64 t674,.int .i64 t675],.slice A1_0 l1_0.length c1_0] ?_);(with_reducible refine (spec_Target.calls t671 t672 t673 t674 t675 _ _ l1_0 t678 _ ?side1 ?side2 A31.1).mono ?_);(case side1=>exact Kd.C_below HR1_0.1 zB0);(case side2=>exact HC1_0.1);rintro e w47 ⟨rfl,hb⟩;refine ⟨_,rfl,?_⟩;replace HO_6:=zM (Kd.R_below (by refine zrR ?_;exact (Kd.R_mono (zfR (zfR (zfR (zfR (zfR (Kd.R_types HO_6.1 BK677.1 (by decide))))))) (fun _ h_=>h_.1))) hb);replace BK655:=zM (zf BK655.1 hb);replace BK656:=zM (zf BK656.1 hb);replace BK677:=zM (blk_below (g:=gb677) (o:= .cells #[.int .i64 t671,.int .i64 t672,.int .i64 t673,.int .i64 t674,.int .i64 t675] 109 (0,0)) (by exact zp5 (zK BK677.1)) hb);replace HB:=zM (below_step zB0 hb);clear hb;have p679:0≤(t678:Int):=zA;have q679:t678<(l0.length:Int):=zA;obtain ⟨ad679,e679,hx679_0⟩:=Kd.at_int HR0.1 t678 p679 q679;obtain rfl:ad670=ad679:=(by injection e679);replace hx679_0:=zHx HB.1 hx679_0;replace p679:=eq_true p679;replace q679:=eq_true q679;have hcz48:=zc_3 (w:=w47) BK655.1;have hcz49:=zc_5 (w:=w47) BK677.1)|((with_reducible refine zG Try.func108 55 #[.agg #[.slice A1_0 l1_0.length c1_0,.int .i64 a1_1,.int .i64 a1_2],.agg #[.int .i64 t671,.int .i64 t672,.int .i64 t673,.int .i64 t674,.int .i64 t675],.int .i64 (rd l0 t678)] ?_);(with_reducible refine (spec_Work.calls kj3 _ _ l1_0 a1_1 a1_2 t671 t672 t673 t674 t675 (rd l0 t678) t680 t683 t684 t685 _ ?side1 ?side2 A35.1).mono ?_);(case side1=>exact zC (Kd.C_below HR1_0.1 HB.1));(case side2=>exact HC1_0.1);rintro e w50 ⟨v681,rfl,ho0,hb⟩;refine ⟨_,rfl,?_⟩;have HO682:=zM (Kd.R_lower (Kd.R_new' ho0 (Kd.R_lt (zR HO_6.1))) (below_size zB0));replace HO_6:=zM (Kd.R_elder' (zR HO_6.1) (Kd.R_base ho0) hb);replace BK655:=zM (zb BK655.1 hb);replace BK656:=zM (zb BK656.1 hb);replace BK677:=zM (zb BK677.1 hb);replace HB:=zM (below_step zB0 hb);clear hb ho0)|((with_reducible refine zBx 11 53 #[.slice none 0 0,.int .i64 0,.int .i64 0] ?_);intro gb686 hg w51 hbox hb;replace HO_6:=zM (Kd.R_below (zR HO_6.1) hb);replace HO682:=zM (Kd.R_below (zR HO682.1) hb);have BK686:=zM hbox;have GW686:=zM (zW hg (below_size zB0));have GE686:=zM (zW hg (below_size zB0));replace HB:=zM (below_step zB0 hb);have NB655_686:=zM ((zn BK655.1 hg:gb655≠gb686));have NB686_655:=zM ((zm BK655.1 hg:gb686≠gb655));replace BK655:=zM (zb BK655.1 hb);have NB656_686:=zM ((zn BK656.1 hg:gb656≠gb686));have NB686_656:=zM ((zm BK656.1 hg:gb686≠gb656));replace BK656:=zM (zb BK656.1 hb);have NB677_686:=zM ((zn BK677.1 hg:gb677≠gb686));have NB686_677:=zM ((zm BK677.1 hg:gb686≠gb677));replace BK677:=zM (zb BK677.1 hb);clear hb hbox hg;obtain ⟨Ao52,co52,eo52⟩:=Kd.R_slice HO682.1;subst eo52;have hnb53:=NB686_655.1;have hnc53:=NB655_686.1;have hnb54:=NB686_656.1;have hnc54:=NB656_686.1;have hnb55:=NB686_677.1;have hnc55:=NB677_686.1;have hcz56:=zc_3 (w:=w51) BK686.1)|((with_reducible refine gate_store (t:=53) (p:=11) rfl ?_);refine store_event (t:=53) (p:=11) (v:=?vo_w57) (w1:=(((w51.setCell ⟨gb686,0,none⟩ (.slice Ao52 t680.length co52)).setCell ⟨gb686,1,none⟩ (.int .i64 t683)).setCell ⟨gb686,2,none⟩ (.int .i64 t684))) ?hg ?ho ?hn ?hr ?_;(case ho=>rfl);(case hg=>rfl);(case hn=>rfl);(case hr=>exact zHH);intro w57 hw;have n0_:Aside0 (Kd.R (Kd.int .i64) 3 w57 w.heap.size (fun k_=>some k_≠(.slice Ao52 t680.length co52:Value).ownBlock) v661 y660):=⟨(by rw [hw];exact (by refine zrR ?_;exact Kd.R_mono (zfR (zfR (zfR (Kd.R_types HO_6.1 BK686.1 (by decide))))) (fun _ hk=>hk.1.2)))⟩;have n1_:Aside0 (Kd.R (Kd.int .i64) 3 w57 w.heap.size (fun k_=>some k_≠(v661:Value).ownBlock) (.slice Ao52 t680.length co52) t680):=⟨(by rw [hw];exact (by refine zrR ?_;exact Kd.R_mono (zfR (zfR (zfR (Kd.R_types HO682.1 BK686.1 (by decide))))) (fun _ hk=>hk.1.2)))⟩;have n2_:Aside0 (w57.heap[gb655]? =some (.cells #[.slice A1_0 l1_0.length c1_0,.int .i64 a1_1,.int .i64 a1_2] 53 (0,0))):=⟨(by rw [hw];exact zPq)⟩;have n3_:Aside0 (w57.heap[gb656]? =some (.cells #[.slice none 0 0,.int .i64 0,.int .i64 0] 53 (0,0))):=⟨(by rw [hw];exact zPq)⟩;have n4_:Aside0 (w57.heap[gb677]? =some (.cells #[.int .i64 t671,.int .i64 t672,.int .i64 t673,.int .i64 t674,.int .i64 t675] 109 (0,0))):=⟨(by rw [hw];exact zPq)⟩;have n5_:Aside0 (w57.heap[gb686]? =some (.cells #[.slice Ao52 t680.length co52,.int .i64 t683,.int .i64 t684] 53 (0,0))):=⟨(by rw [hw];exact (by exact zp3 (zK BK686.1)))⟩;have n6_:Aside0 (Below w.heap.size w w57):=⟨(by rw [hw];exact zB0)⟩;clear hw;clear HO_6;clear HO682;clear BK655;clear BK656;clear BK677;clear BK686;clear HB;have HO_6:=n0_;have HO682:=n1_;have BK655:=n2_;have BK656:=n3_;have BK677:=n4_;have BK686:=n5_;have HB:=n6_;clear n0_ n1_ n2_ n3_ n4_ n5_ n6_;have p38:0≤(t678:Int):=zA;have q38:(t678:Int)<((y660.length:Int):Int):=zA;obtain ⟨go38,co38,eo38,gb38,gl38,cl38,HG38⟩:=Kd.R_form HO_6.1 (by omega);(first|cases eo38|(injection eo38 with ea_ en_ ec_;(first|subst ea_|(injection ea_ with ea_;subst ea_));subst ec_;clear en_));have GB38:=zM gb38;have GG38:=zM HG38;clear gb38 gl38 HG38;obtain ⟨hx38_0,hf38_0⟩:=Kd.R_celln 0 HO_6.1 (t678:Int) p38 q38;replace p38:=eq_true p38;replace q38:=eq_true q38;obtain ⟨hy58_,hz58_⟩:=Kd.R_celln 0 HO_6.1 (t678:Int) zA zA;have HP58:=Kd.R_putg HO_6.1 (t678:Int) t685)|((with_reducible refine gate_store (t:=3) (p:=63) rfl ?_);refine store_event (t:=3) (p:=63) (v:=?vo_w59) (w1:=(w57.setCell ⟨go38,(t678:Int).toNat,none⟩ (.int .i64 t685))) ?hg ?ho ?hn ?hr ?_;(case ho=>rfl);(case hg=>rfl);(case hn=>rfl);(case hr=>exact zHH);intro w59 hw;have hg:w57.grownBy w59 (some go38):=(by rw [hw];exact HP58.2);have hp_:Kd.R (Kd.int .i64) 3 w59 w.heap.size (fun k_=>some k_≠(.slice Ao52 t680.length co52:Value).ownBlock) (.slice (some ⟨go38,0,none⟩) y660.length co38) y687:=(by rw [hw,Ny687.1];exact HP58.1);clear HP58;replace BK655:=zM (zg BK655.1 hg (Kd.R_ne HO_6.1 BK655.1 (by decide)));replace BK656:=zM (zg BK656.1 hg (Kd.R_ne HO_6.1 BK656.1 (by decide)));replace BK677:=zM (zg BK677.1 hg (Kd.R_ne HO_6.1 BK677.1 (by decide)));replace HO682:=zM (Kd.R_after (v:=(.slice (some ⟨go38,0,none⟩) y660.length co38)) (v1:=(.slice (some ⟨go38,0,none⟩) y660.length co38)) (ok:=(fun _=>True)) (by refine zrR ?_;exact Kd.R_mono HO682.1 (fun _ hk=>⟨trivial,hk⟩)) hg (.inl rfl));replace BK686:=zM (zg BK686.1 hg (Kd.R_ne HO_6.1 BK686.1 (by decide)));replace HO_6:=zM hp_;replace HB:=zM ((by rw [hw];exact below_set (HB.1) GB38.1:Below w.heap.size w w59));clear hg hw hp_))
   replace HO_6:=zM (Kd.R_drew HO_6.1)
   replace HO682:=zM (Kd.R_drew HO682.1)
   replace BK655:=zM (blk_drew BK655.1)
   replace BK656:=zM (blk_drew BK656.1)
   replace BK677:=zM (blk_drew BK677.1)
   replace BK686:=zM (blk_drew BK686.1)
   replace HB:=zM (below_drew1 HB.1)
   refine start_ (n:=4) (S:=fun w'=>w'.cell? ⟨gb686,0,none⟩=some (.slice Ao52 t680.length co52)∧w'.cell? ⟨gb686,1,none⟩=some (.int .i64 t683)∧w'.cell? ⟨gb686,2,none⟩=some (.int .i64 t684)) (ds:=[]) #[false,false,false,false] (by kernel_rfl) rfl rfl ⟨(blk_cell BK686.1 0).trans rfl,(blk_cell BK686.1 1).trans rfl,(blk_cell BK686.1 2).trans rfl⟩ (fun hHeld=>?_)
   generalize w59.drew=w60 at HO_6 HO682 BK655 BK656 BK677 BK686 HB hHeld ⊢
   refine zPu 0 ?_
   refine zPu 2 ?_
   refine zTk3 1 hHeld ?_
   refine zOn 3 none fun K hK=>?_
   obtain ⟨hs61,hfs61⟩:=zHs BK656.1 0
   have hns61_0:=NB655_656.1
   have hns61_2:=NB677_656.1
   have hns61_3:=NB686_656.1
   have hms61_0:=NB656_655.1
   have hms61_2:=NB656_677.1
   have hms61_3:=NB656_686.1
   obtain ⟨hs62,hfs62⟩:=zHs BK656.1 1
   have hns62_0:=NB655_656.1
   have hns62_2:=NB677_656.1
   have hns62_3:=NB686_656.1
   have hms62_0:=NB656_655.1
   have hms62_2:=NB656_677.1
   have hms62_3:=NB656_686.1
   obtain ⟨hs63,hfs63⟩:=zHs BK656.1 2
   have hns63_0:=NB655_656.1
   have hns63_2:=NB677_656.1
   have hns63_3:=NB686_656.1
   have hms63_0:=NB656_655.1
   have hms63_2:=NB656_677.1
   have hms63_3:=NB656_686.1
   refine skip_ (w1:=?_) (by rfl) rfl ?_ ?_
   rotate_left
   ·go_simp
    rfl
   refine hK.out _ _ zCs fun hHeld=>?_
   clear hK K
   refine done_ (by kernel_rfl) ?_
   try go_wp2
   refine bodyPost_ret (results_tc rfl _ _ gb656 53 #[.slice Ao52 t680.length co52,.int .i64 t683,.int .i64 t684] (0,0) _ rfl (by exact zp3 (zK BK656.1)) Try.underlying53 rfl (by kernel_rfl)) rfl ?_
   exact ⟨_,_,zE,by refine zrR ?_;exact Kd.R_mono (zfR (zfR (zfR (Kd.R_types HO_6.1 BK656.1 (by decide))))) (fun _ hk=>hk.1),by refine zrR ?_;exact Kd.R_mono (zfR (zfR (zfR (Kd.R_types HO682.1 BK656.1 (by decide))))) (fun _ hk=>hk.1.2),zB0⟩

end Go.Proofs.Ytpcgecacaemalaa.PFnStops
