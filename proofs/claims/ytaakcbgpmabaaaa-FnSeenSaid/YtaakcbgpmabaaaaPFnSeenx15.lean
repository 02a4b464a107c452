-- made by wip/tools/myprint.py out of the seat's translation
import Derived.Test.YtaakcbgpmabaaaaPFnSeenx0
import Derived.Test.YtaakcbgpmabaaaaPFnSeenx4
import Derived.Test.YtaakcbgpmabaaaaPFnSeenx5
import Derived.Test.YtaakcbgpmabaaaaPFnSeenx11
import Derived.Test.YtaakcbgpmabaaaaPFnSeenx12
import Derived.Test.YtaakcbgpmabaaaaPFnSeenx13
namespace Go.Proofs.Ytaakcbgpmabaaaa.PFnSeen
open Go.RowKit Go.Proofs.YtaakcbgpmabaaaaW.PrintWords Go.Proofs.YtaakcbgpmabaaaaW.PrintLast Go.Proofs.YtaakcbgpmabaaaaW.PrintMore
attribute [local go_sem] max2_int min2_int max_two min_two max_three min_three max_four min_four -- for this text's walks alone
set_option linter.unusedVariables false
set_option linter.unusedSimpArgs false
set_option maxHeartbeats 8000000
set_option maxRecDepth 100000

/-! ### spec_FlatStep: function 82 -/
def spec_FlatStep.j0:Nat→List Int→List Int→Bool→List Int→Int→Int→Option (List Int×List Int×Int×Int)
 |0,_,_,_,_,_,_=>none
 |k+1,x0,x6,x28,x576000,x576001,x576002=>if x28=true then ((spec_l9Copy.f x576000 x576001 x576002).bind fun bt585=>(some (x6,bt585.1,bt585.2.1,bt585.2.2))) else (if 0≤x576001 then (if x576001<(x0.length:Int) then ((spec_Decode.f (rd x0 x576001)).bind fun bt591=>((spec_Target.f bt591.1 bt591.2.1 bt591.2.2.1 bt591.2.2.2.1 bt591.2.2.2.2.1 x576000).bind fun t598=>(if t598≥0 then (if 0≤t598 then (if t598<(x0.length:Int) then ((spec_Work.f k x576000 x576001 x576002 bt591.1 bt591.2.1 bt591.2.2.1 bt591.2.2.2.1 bt591.2.2.2.2.1 (rd x0 t598)).bind fun bt600=>(if bt600.2.2.2≥0 then (if t598<(x6.length:Int) then (some ((x6.set (t598:Int).toNat bt600.2.2.2),bt600.1,bt600.2.1,bt600.2.2.1)) else (none)) else (some (x6,bt600.1,bt600.2.1,bt600.2.2.1)))) else (none)) else (none)) else ((spec_Work.f k x576000 x576001 x576002 bt591.1 bt591.2.1 bt591.2.2.1 bt591.2.2.2.1 bt591.2.2.2.2.1 0).bind fun bt608=>(if bt608.2.2.2≥0 then (if 0≤t598 then (if t598<(x6.length:Int) then (some ((x6.set (t598:Int).toNat bt608.2.2.2),bt608.1,bt608.2.1,bt608.2.2.1)) else (none)) else (none)) else (some (x6,bt608.1,bt608.2.1,bt608.2.2.1))))))) else (none)) else (none))
def spec_FlatStep.f (k:Nat) (l0:List Int) (l1_0:List Int) (a1_1:Int) (a1_2:Int):Option (List Int×List Int×Int×Int):=(some (([]:List Int):List Int)).bind fun y577=>(if y577.length+l0.length<17592186044416 then ((some (y577++l0:List Int)).bind fun y580=>((spec_l1Words.f k l0 24).bind fun t583=>(if t583=true then ((spec_HartOk.f k l1_0 a1_1 a1_2).bind fun t584=>(if t584=true then (spec_FlatStep.j0 k l0 y580 (a1_2 != 0) l1_0 a1_1 a1_2) else (spec_FlatStep.j0 k l0 y580 true l1_0 a1_1 a1_2))) else (spec_FlatStep.j0 k l0 y580 true l1_0 a1_1 a1_2)))) else (none))
theorem spec_FlatStep.mono_l: ∀k,(∀y0 y1 y2 y3 y4 y5,LeO (spec_FlatStep.j0 k y0 y1 y2 y3 y4 y5) (spec_FlatStep.j0 (k+1) y0 y1 y2 y3 y4 y5))
 |0=>fun _ _ _ _ _ _ r h=>by simp [spec_FlatStep.j0] at h
 |k+1=>by
  have ih0:=spec_FlatStep.mono_l k
  ·intros
   unfold spec_FlatStep.j0
   have mo0:=@spec_HartOk.mono
   have mo1:=@spec_Work.mono
   have mo2:=@spec_l1Words.mono
   exact zL
theorem spec_FlatStep.mono: ∀a0 a1 a2 a3 k,LeO (spec_FlatStep.f k a0 a1 a2 a3) (spec_FlatStep.f (k+1) a0 a1 a2 a3):=by
 intro a0 a1 a2 a3 k
 have ih0:=spec_FlatStep.mono_l k
 unfold spec_FlatStep.f
 have mo0:=@spec_HartOk.mono
 have mo1:=@spec_Work.mono
 have mo2:=@spec_l1Words.mono
 exact zL
theorem spec_FlatStep.calls (k:Nat) (A0:Option Addr) (c0:Nat) (l0:List Int) (A1_0:Option Addr) (c1_0:Nat) (l1_0:List Int) (a1_1:Int) (a1_2:Int) (r1:List Int) (r2:List Int) (r3:Int) (r4:Int) (w:World) (hr0:Kd.C (Kd.int .i64) w A0 l0.length l0) (hc0:l0.length≤c0) (hr1_0:Kd.C (Kd.int .i64) w A1_0 l1_0.length l1_0) (hc1_0:l1_0.length≤c1_0) (h:spec_FlatStep.f k l0 l1_0 a1_1 a1_2=some (r1,r2,r3,r4)):
  Calls Try.prog 82 #[.slice A0 l0.length c0,.agg #[.slice A1_0 l1_0.length c1_0,.int .i64 a1_1,.int .i64 a1_2]] w fun e w'=>∃v0_ v1_:Value,e= .returned (.tuple #[v0_,.agg #[v1_,.int .i64 r3,.int .i64 r4]])∧Kd.R (Kd.int .i64) 3 w' w.heap.size (fun k_=>some k_≠(v1_:Value).ownBlock) v0_ r1∧Kd.R (Kd.int .i64) 3 w' w.heap.size (fun k_=>some k_≠(v0_:Value).ownBlock) v1_ r2∧Below w.heap.size w w':=by
 have hu72:=Try.underlying72
 have hu57:=Try.underlying57
 have HR0:=zM hr0
 have HC0:=zM hc0
 clear hr0 hc0
 have HR1_0:=zM hr1_0
 have HC1_0:=zM hc1_0
 clear hr1_0 hc1_0
 have HB:=zM (Below.refl w.heap.size w)
 unfold spec_FlatStep.f at h
 have H:=h
 clear h
 replace H:=zY H
 obtain ⟨y577,Ny577,H⟩:=H
 replace H:=zIn H
 obtain ⟨LMc3,H⟩:=H
 replace H:=zY H
 obtain ⟨y580,Ny580,H⟩:=H
 have HC4:=zM H
 clear H
 go_enter Try.func82,Try.ntmps82
 go_upto_region 2 with (first|((with_reducible refine zBx 3 72 #[.slice A1_0 l1_0.length c1_0,.int .i64 a1_1,.int .i64 a1_2] ?_);intro gb575 hg w5 hbox hb;have BK575:=zM hbox;have GW575:=zM (zW hg (below_size zB3));have GE575:=zM (zW hg (below_size zB3));replace HB:=zM (below_step zB3 hb);clear hb hbox hg)|((with_reducible refine zBx 5 72 #[.slice none 0 0,.int .i64 0,.int .i64 0] ?_);intro gb576 hg w6 hbox hb;have BK576:=zM hbox;have GW576:=zM (zW hg (below_size zB3));have GE576:=zM (zW hg (below_size zB3));replace HB:=zM (below_step zB3 hb);have NB575_576:=zM ((zn BK575.1 hg:gb575≠gb576));have NB576_575:=zM ((zm BK575.1 hg:gb576≠gb575));replace BK575:=zM (zb BK575.1 hb);clear hb hbox hg)|((with_reducible refine gate_dst (N:=13) rfl ?_);refine Kd.R_lit (Kd.int .i64) _ 3 ?hg (N:=13) ?hd (xs:=([]:List Int)) (inner:=[]) (ok:=fun _=>True) (okp:=fun _=>True) ?hr ?hp (fun _ hk=>hk) trivial (Below.refl _ _) (Nat.le_refl _) (by simp) ?_;(case hd=>rfl);(case hg=>rfl);(case hr=>exact zHH);(case hp=>exact (Reps.none _ _));intro v578 w7 ho8 hb hg_ hnew_;clear hg_ hnew_;(first|rw [←Ny577.1] at ho8|(simp only [Int.reduceToNat] at ho8;rw [←Ny577.1] at ho8));have HO579:=zM (Kd.R_lower ho8 (below_size zB3));replace BK575:=zM (zb BK575.1 hb);replace BK576:=zM (zb BK576.1 hb);replace HB:=zM (below_step zB3 hb);clear hb ho8)|((with_reducible refine gate_builtin (b:= .append) (xs:=#[.tmp 13,.tmp 14]) rfl ?_);at_builtin;refine Kd.R_append_rows (Kd.int .i64) (w0:=w) w.heap.size rfl (.tmp 13) (.tmp 14) 24 3 (.int .i64 0) 8 rfl Try.underlying24 info3 rfl (by decide) (by omega) v578 y577 l0 _ _ _ (fun _=>True) (fun _=>False) rfl rfl ?aO ?aR (fun _ _ h=>h) (fun _ h=>h.elim) ?aF ?aB ?aS ?aL ?_;(case aR=>exact zC (Kd.C_below HR0.1 HB.1));(case aB=>exact zB3);(case aF=>exact (fun _ _=>trivial));(case aO=>exact (zR HO579.1));(case aS=>exact (below_size zB3));(case aL=>have:=LMc3.out;omega);intro v581 w9 ho hb hg hat;rw [←Ny580.1] at ho;replace BK575:=zM (zg BK575.1 hg (Kd.R_ne HO579.1 BK575.1 (by decide)));replace BK576:=zM (zg BK576.1 hg (Kd.R_ne HO579.1 BK576.1 (by decide)));replace HB:=zM hb;have HO582:=zM ho;clear HO579;clear ho hb hg hat))
 (try simp only [Act.put,List.setIfInBounds_toArray,List.set_cons_zero,List.set_cons_succ])
 go_cut [28] (fun v28 wc=>∃(kq:Nat) (x28_3:Bool),v28= .bool x28_3∧Aside0 (spec_FlatStep.j0 kq l0 y580 x28_3 l1_0 a1_1 a1_2=some (r1,r2,r3,r4))∧Aside0 (kq≤k)∧Aside0 (Kd.R (Kd.int .i64) 3 wc w.heap.size (fun _=>True) v581 y580)∧Aside0 (wc.heap[gb575]? =some (.cells #[(.slice A1_0 l1_0.length c1_0),.int .i64 a1_1,.int .i64 a1_2] 72 (0,0)))∧Aside0 (wc.heap[gb576]? =some (.cells #[(.slice none 0 0),.int .i64 0,.int .i64 0] 72 (0,0)))∧Aside0 (Below w.heap.size w wc))
 case first=>
  have H:=HC4.1
  clear HC4
  replace H:=zO H
  obtain ⟨t583,A10,H⟩:=H
  by_cases c11:t583=true
  rotate_left
  ·replace c11:=Bool.eq_false_iff.mpr c11
   subst c11
   rw [if_neg zF] at H
   have H':=zM H
   clear H
   go_wp2_with (first|((with_reducible refine zG Try.func48 17 #[.slice A0 l0.length c0,.int .i64 24] ?_);(with_reducible refine (spec_l1Words.calls k _ _ l0 24 false _ ?side1 ?side2 A10.1).mono ?_);(case side1=>exact zC (Kd.C_below HR0.1 HB.1));(case side2=>exact HC0.1);rintro e w' ⟨rfl,⟨nd,rfl⟩⟩;refine ⟨_,rfl,?_⟩))
   go_meet
   case rel=>exact ⟨_,(true),zJJ,H',⟨by first|omega|exact Nat.le_refl _⟩,⟨zR HO582.1⟩,⟨zK BK575.1⟩,⟨zK BK576.1⟩,⟨zB3⟩⟩
  subst c11
  rw [if_pos rfl] at H
  replace H:=zO H
  obtain ⟨t584,A12,H⟩:=H
  by_cases c13:t584=true
  rotate_left
  ·replace c13:=Bool.eq_false_iff.mpr c13
   subst c13
   rw [if_neg zF] at H
   have H':=zM H
   clear H
   go_wp2_with (first|((with_reducible refine zG Try.func48 17 #[.slice A0 l0.length c0,.int .i64 24] ?_);(with_reducible refine (spec_l1Words.calls k _ _ l0 24 true _ ?side1 ?side2 A10.1).mono ?_);(case side1=>exact zC (Kd.C_below HR0.1 HB.1));(case side2=>exact HC0.1);rintro e w' ⟨rfl,⟨nd,rfl⟩⟩;refine ⟨_,rfl,?_⟩;have hnb18:=NB575_576.1;have hnc18:=NB576_575.1;have hcz19:=zc_3 (w:=w9) BK575.1)|(go_at_call 74;(with_reducible refine (spec_HartOk.calls k _ _ l1_0 a1_1 a1_2 false _ ?side1 ?side2 A12.1).mono ?_);(case side1=>repeat (first|exact (Kd.C_below HR1_0.1 zB3)|(with_reducible refine Kd.C_alloc ?_ _)|(with_reducible refine Kd.C_drewN ?_ _)|(with_reducible refine Kd.C_drew ?_)));(case side2=>exact HC1_0.1);rintro e w20 ⟨rfl,hb⟩;replace HO582:=zM (Kd.R_below (zR HO582.1) hb);replace BK575:=zM (zb BK575.1 hb);replace BK576:=zM (zb BK576.1 hb);replace HB:=zM (below_step zB3 hb);clear hb))
   go_meet
   case rel=>exact ⟨_,(true),zJJ,H',⟨by first|omega|exact Nat.le_refl _⟩,⟨zR HO582.1⟩,⟨zK BK575.1⟩,⟨zK BK576.1⟩,⟨zB3⟩⟩
  subst c13
  rw [if_pos rfl] at H
  have H':=zM H
  clear H
  go_wp2_with (first|((with_reducible refine zG Try.func48 17 #[.slice A0 l0.length c0,.int .i64 24] ?_);(with_reducible refine (spec_l1Words.calls k _ _ l0 24 true _ ?side1 ?side2 A10.1).mono ?_);(case side1=>exact zC (Kd.C_below HR0.1 HB.1));(case side2=>exact HC0.1);rintro e w' ⟨rfl,⟨nd,rfl⟩⟩;refine ⟨_,rfl,?_⟩;have hnb14:=NB575_576.1;have hnc14:=NB576_575.1;have hcz15:=zc_3 (w:=w9) BK575.1)|(go_at_call 74;(with_reducible refine (spec_HartOk.calls k _ _ l1_0 a1_1 a1_2 true _ ?side1 ?side2 A12.1).mono ?_);(case side1=>repeat (first|exact (Kd.C_below HR1_0.1 zB3)|(with_reducible refine Kd.C_alloc ?_ _)|(with_reducible refine Kd.C_drewN ?_ _)|(with_reducible refine Kd.C_drew ?_)));(case side2=>exact HC1_0.1);rintro e w16 ⟨rfl,hb⟩;replace HO582:=zM (Kd.R_below (zR HO582.1) hb);replace BK575:=zM (zb BK575.1 hb);replace BK576:=zM (zb BK576.1 hb);replace HB:=zM (below_step zB3 hb);clear hb;have hcz17:=zc_3 (w:=w16) BK575.1))
  go_meet
  case rel=>exact ⟨_,((a1_2 != 0)),zJJ,H',⟨by first|omega|exact Nat.le_refl _⟩,⟨zR HO582.1⟩,⟨zK BK575.1⟩,⟨zK BK576.1⟩,⟨zB3⟩⟩
 case rest=>
  clear HC4
  obtain ⟨kq,x28_3,rfl,HA,HJ3,HO_6,BK575,BK576,HB⟩:=hcut
  cases kq with
  |zero=>exact absurd HA.1 (by simp [spec_FlatStep.j0])
  |succ kj3=>
   have H:=HA.1
   clear HA
   simp only [spec_FlatStep.j0] at H
   by_cases c21:x28_3=true
   ·subst c21
    rw [if_pos rfl] at H
    replace H:=zO H
    obtain ⟨⟨t585,t588,t589⟩,A22,H⟩:=H
    try dsimp only at H
    simp only [Option.some.injEq,Prod.mk.injEq] at H
    obtain ⟨rfl,rfl,rfl,rfl⟩:=H
    have hnb23:=NB575_576.1
    have hnc23:=NB576_575.1
    have hcz24:=zc_3 (w:=wc) BK575.1
    go_wp2_with (first|((with_reducible refine zG Try.func111 31 #[.agg #[.slice A1_0 l1_0.length c1_0,.int .i64 a1_1,.int .i64 a1_2]] ?_);(with_reducible refine (spec_l9Copy.calls _ _ l1_0 a1_1 a1_2 t585 t588 t589 _ ?side1 ?side2 A22.1).mono ?_);(case side1=>exact zC (Kd.C_below HR1_0.1 HB.1));(case side2=>exact HC1_0.1);rintro e w25 ⟨v586,rfl,ho0,hb⟩;refine ⟨_,rfl,?_⟩;have HO587:=zM (Kd.R_lower (Kd.R_new' ho0 (Kd.R_lt (zR HO_6.1))) (below_size zB3));replace HO_6:=zM (Kd.R_elder' (zR HO_6.1) (Kd.R_base ho0) hb);replace BK575:=zM (zb BK575.1 hb);replace BK576:=zM (zb BK576.1 hb);replace HB:=zM (below_step zB3 hb);clear hb ho0;obtain ⟨Ao26,co26,eo26⟩:=Kd.R_slice HO587.1;subst eo26;have hcz27:=zc_3 (w:=w25) BK576.1))
    refine bodyPost_ret (results_tc rfl _ _ gb576 72 #[.slice Ao26 t585.length co26,.int .i64 t588,.int .i64 t589] (0,0) _ rfl (by exact zp3 (zK BK576.1)) Try.underlying72 rfl (by kernel_rfl)) rfl ?_
    exact ⟨_,_,zE,by refine zrR ?_;exact Kd.R_mono (zfR (zfR (zfR (Kd.R_types HO_6.1 BK576.1 (by decide))))) (fun _ hk=>hk.1.2),by refine zrR ?_;exact Kd.R_mono (zfR (zfR (zfR (Kd.R_types HO587.1 BK576.1 (by decide))))) (fun _ hk=>hk.1.2),zB3⟩
   replace c21:=Bool.eq_false_iff.mpr c21
   subst c21
   rw [if_neg zF] at H
   replace H:=zIt H
   obtain ⟨c28b0,H⟩:=H
   replace H:=zIt H
   obtain ⟨c29b0,H⟩:=H
   replace H:=zO H
   obtain ⟨⟨t591,t592,t593,t594,t595,t596⟩,A30,H⟩:=H
   try dsimp only at H
   replace H:=zO H
   obtain ⟨t598,A31,H⟩:=H
   by_cases c32:t598≥0
   rotate_left
   ·rw [if_neg c32] at H
    have c32b0:=decide_eq_false c32
    clear c32
    replace H:=zO H
    obtain ⟨⟨t608,t611,t612,t613⟩,A87,H⟩:=H
    try dsimp only at H
    by_cases c88:t613≥0
    rotate_left
    ·rw [if_neg c88] at H
     have c88b0:=decide_eq_false c88
     clear c88
     simp only [Option.some.injEq,Prod.mk.injEq] at H
     obtain ⟨rfl,rfl,rfl,rfl⟩:=H
     have hnb117:=NB575_576.1
     have hnc117:=NB576_575.1
     have hcz118:=zc_3 (w:=wc) BK575.1
     obtain ⟨p590,q590,ad590,e590,hx590_0⟩:=zRd (Kd.at_int HR0.1 a1_1)
     cases e590
     replace hx590_0:=zHx HB.1 hx590_0
     try go_wp2_with (first|((with_reducible refine zG Try.func108 38 #[.int .i64 (rd l0 a1_1)] ?_);(with_reducible refine (spec_Decode.calls (rd l0 a1_1) t591 t592 t593 t594 t595 t596 _ A30.1).mono ?_);rintro e w119 ⟨rfl,hb⟩;refine ⟨_,rfl,?_⟩;replace HO_6:=zM (Kd.R_below (zR HO_6.1) hb);replace BK575:=zM (zb BK575.1 hb);replace BK576:=zM (zb BK576.1 hb);replace HB:=zM (below_step zB3 hb);clear hb)|((with_reducible refine zBx 7 57 #[.int .i64 0,.int .i64 0,.int .i64 0,.int .i64 0,.int .i64 0] ?_);intro gb597 hg w120 hbox hb;replace HO_6:=zM (Kd.R_below (zR HO_6.1) hb);have BK597:=zM hbox;have GW597:=zM (zW hg (below_size zB3));have GE597:=zM (zW hg (below_size zB3));replace HB:=zM (below_step zB3 hb);have NB575_597:=zM ((zn BK575.1 hg:gb575≠gb597));have NB597_575:=zM ((zm BK575.1 hg:gb597≠gb575));replace BK575:=zM (zb BK575.1 hb);have NB576_597:=zM ((zn BK576.1 hg:gb576≠gb597));have NB597_576:=zM ((zm BK576.1 hg:gb597≠gb576));replace BK576:=zM (zb BK576.1 hb);clear hb hbox hg;have hnb121:=NB597_575.1;have hnc121:=NB575_597.1;have hnb122:=NB597_576.1;have hnc122:=NB576_597.1;have hcz123:=zc_5 (w:=w120) BK597.1;have hcz124:=zc_3 (w:=w120) BK575.1)|((with_reducible refine zG Try.func109 44 #[.agg #[.int .i64 t591,.int .i64 t592,.int .i64 t593,.int .i64 t594,.int .i64 t595],.slice A1_0 l1_0.length c1_0] ?_);(with_reducible refine (spec_Target.calls t591 t592 t593 t594 t595 _ _ l1_0 t598 _ ?side1 ?side2 A31.1).mono ?_);(case side1=>exact Kd.C_below HR1_0.1 zB3);(case side2=>exact HC1_0.1);rintro e w125 ⟨rfl,hb⟩;refine ⟨_,rfl,?_⟩;replace HO_6:=zM (Kd.R_below (by refine zrR ?_;exact (Kd.R_mono (zfR (zfR (zfR (zfR (zfR (Kd.R_types HO_6.1 BK597.1 (by decide))))))) (fun _ h_=>h_.1))) hb);replace BK575:=zM (zf BK575.1 hb);replace BK576:=zM (zf BK576.1 hb);replace BK597:=zM (blk_below (g:=gb597) (o:= .cells #[.int .i64 t591,.int .i64 t592,.int .i64 t593,.int .i64 t594,.int .i64 t595] 57 (0,0)) (by exact zp5 (zK BK597.1)) hb);replace HB:=zM (below_step zB3 hb);clear hb;have hcz126:=zc_3 (w:=w125) BK575.1;have hcz127:=zc_5 (w:=w125) BK597.1)|((with_reducible refine zG Try.func110 55 #[.agg #[.slice A1_0 l1_0.length c1_0,.int .i64 a1_1,.int .i64 a1_2],.agg #[.int .i64 t591,.int .i64 t592,.int .i64 t593,.int .i64 t594,.int .i64 t595],.int .i64 0] ?_);(with_reducible refine (spec_Work.calls kj3 _ _ l1_0 a1_1 a1_2 t591 t592 t593 t594 t595 0 t608 t611 t612 t613 _ ?side1 ?side2 A87.1).mono ?_);(case side1=>exact zC (Kd.C_below HR1_0.1 HB.1));(case side2=>exact HC1_0.1);rintro e w128 ⟨v609,rfl,ho0,hb⟩;refine ⟨_,rfl,?_⟩;have HO610:=zM (Kd.R_lower (Kd.R_new' ho0 (Kd.R_lt (zR HO_6.1))) (below_size zB3));replace HO_6:=zM (Kd.R_elder' (zR HO_6.1) (Kd.R_base ho0) hb);replace BK575:=zM (zb BK575.1 hb);replace BK576:=zM (zb BK576.1 hb);replace BK597:=zM (zb BK597.1 hb);replace HB:=zM (below_step zB3 hb);clear hb ho0)|((with_reducible refine zBx 11 72 #[.slice none 0 0,.int .i64 0,.int .i64 0] ?_);intro gb614 hg w129 hbox hb;replace HO_6:=zM (Kd.R_below (zR HO_6.1) hb);replace HO610:=zM (Kd.R_below (zR HO610.1) hb);have BK614:=zM hbox;have GW614:=zM (zW hg (below_size zB3));have GE614:=zM (zW hg (below_size zB3));replace HB:=zM (below_step zB3 hb);have NB575_614:=zM ((zn BK575.1 hg:gb575≠gb614));have NB614_575:=zM ((zm BK575.1 hg:gb614≠gb575));replace BK575:=zM (zb BK575.1 hb);have NB576_614:=zM ((zn BK576.1 hg:gb576≠gb614));have NB614_576:=zM ((zm BK576.1 hg:gb614≠gb576));replace BK576:=zM (zb BK576.1 hb);have NB597_614:=zM ((zn BK597.1 hg:gb597≠gb614));have NB614_597:=zM ((zm BK597.1 hg:gb614≠gb597));replace BK597:=zM (zb BK597.1 hb);clear hb hbox hg;obtain ⟨Ao130,co130,eo130⟩:=Kd.R_slice HO610.1;subst eo130;have hnb131:=NB614_575.1;have hnc131:=NB575_614.1;have hnb132:=NB614_576.1;have hnc132:=NB576_614.1;have hnb133:=NB614_597.1;have hnc133:=NB597_614.1;have hcz134:=zc_3 (w:=w129) BK614.1))
     generalize hw_:(((w129.setCell ⟨gb614,0,none⟩ (.slice Ao130 t608.length co130)).setCell ⟨gb614,1,none⟩ (.int .i64 t611)).setCell ⟨gb614,2,none⟩ (.int .i64 t612))=w135
     have n0_:Aside0 (Kd.R (Kd.int .i64) 3 w135 w.heap.size (fun k_=>some k_≠(.slice Ao130 t608.length co130:Value).ownBlock) v581 y580):=⟨by rw [←hw_];refine zrR ?_;exact Kd.R_mono (zfR (zfR (zfR (Kd.R_types HO_6.1 BK614.1 (by decide))))) (fun _ hk=>hk.1.2)⟩
     have n1_:Aside0 (Kd.R (Kd.int .i64) 3 w135 w.heap.size (fun k_=>some k_≠(v581:Value).ownBlock) (.slice Ao130 t608.length co130) t608):=⟨by rw [←hw_];refine zrR ?_;exact Kd.R_mono (zfR (zfR (zfR (Kd.R_types HO610.1 BK614.1 (by decide))))) (fun _ hk=>hk.1.2)⟩
     have n2_:Aside0 (w135.heap[gb575]? =some (.cells #[.slice A1_0 l1_0.length c1_0,.int .i64 a1_1,.int .i64 a1_2] 72 (0,0))):=⟨by rw [←hw_];exact zPq⟩
     have n3_:Aside0 (w135.heap[gb576]? =some (.cells #[.slice none 0 0,.int .i64 0,.int .i64 0] 72 (0,0))):=⟨by rw [←hw_];exact zPq⟩
     have n4_:Aside0 (w135.heap[gb597]? =some (.cells #[.int .i64 t591,.int .i64 t592,.int .i64 t593,.int .i64 t594,.int .i64 t595] 57 (0,0))):=⟨by rw [←hw_];exact zPq⟩
     have n5_:Aside0 (w135.heap[gb614]? =some (.cells #[.slice Ao130 t608.length co130,.int .i64 t611,.int .i64 t612] 72 (0,0))):=⟨by rw [←hw_];exact zp3 (zK BK614.1)⟩
     have n6_:Aside0 (Below w.heap.size w w135):=⟨by rw [←hw_];exact zB3⟩
     (try clear HO_6)
     (try clear HO610)
     (try clear BK575)
     (try clear BK576)
     (try clear BK597)
     (try clear BK614)
     (try clear HB)
     clear hw_
     have HO_6:=n0_
     have HO610:=n1_
     have BK575:=n2_
     have BK576:=n3_
     have BK597:=n4_
     have BK614:=n5_
     have HB:=n6_
     clear n0_ n1_ n2_ n3_ n4_ n5_ n6_
     replace HO_6:=zM (Kd.R_drew HO_6.1)
     replace HO610:=zM (Kd.R_drew HO610.1)
     replace BK575:=zM (blk_drew BK575.1)
     replace BK576:=zM (blk_drew BK576.1)
     replace BK597:=zM (blk_drew BK597.1)
     replace BK614:=zM (blk_drew BK614.1)
     replace HB:=zM (below_drew1 HB.1)
     refine start_ (n:=4) (S:=fun w'=>w'.cell? ⟨gb614,0,none⟩=some (.slice Ao130 t608.length co130)∧w'.cell? ⟨gb614,1,none⟩=some (.int .i64 t611)∧w'.cell? ⟨gb614,2,none⟩=some (.int .i64 t612)) (ds:=[]) #[false,false,false,false] (by kernel_rfl) rfl rfl ⟨(blk_cell BK614.1 0).trans rfl,(blk_cell BK614.1 1).trans rfl,(blk_cell BK614.1 2).trans rfl⟩ (fun hHeld=>?_)
     generalize w135.drew=w136 at HO_6 HO610 BK575 BK576 BK597 BK614 HB hHeld ⊢
     refine zPu 0 ?_
     refine zPu 2 ?_
     refine zTk3 1 hHeld ?_
     refine zOn 3 none fun K hK=>?_
     obtain ⟨hs137,hfs137⟩:=zHs BK576.1 0
     have hns137_0:=NB575_576.1
     have hns137_2:=NB597_576.1
     have hns137_3:=NB614_576.1
     have hms137_0:=NB576_575.1
     have hms137_2:=NB576_597.1
     have hms137_3:=NB576_614.1
     obtain ⟨hs138,hfs138⟩:=zHs BK576.1 1
     have hns138_0:=NB575_576.1
     have hns138_2:=NB597_576.1
     have hns138_3:=NB614_576.1
     have hms138_0:=NB576_575.1
     have hms138_2:=NB576_597.1
     have hms138_3:=NB576_614.1
     obtain ⟨hs139,hfs139⟩:=zHs BK576.1 2
     have hns139_0:=NB575_576.1
     have hns139_2:=NB597_576.1
     have hns139_3:=NB614_576.1
     have hms139_0:=NB576_575.1
     have hms139_2:=NB576_597.1
     have hms139_3:=NB576_614.1
     refine skip_ (w1:=?_) (by rfl) rfl ?_ ?_
     rotate_left
     ·go_simp
      rfl
     refine hK.out _ _ zCs fun hHeld=>?_
     clear hK K
     refine done_ (by kernel_rfl) ?_
     try go_wp2
     refine bodyPost_ret (results_tc rfl _ _ gb576 72 #[.slice Ao130 t608.length co130,.int .i64 t611,.int .i64 t612] (0,0) _ rfl (by exact zp3 (zK BK576.1)) Try.underlying72 rfl (by kernel_rfl)) rfl ?_
     exact ⟨_,_,zE,by refine zrR ?_;exact Kd.R_mono (zfR (zfR (zfR (Kd.R_types HO_6.1 BK576.1 (by decide))))) (fun _ hk=>hk.1),by refine zrR ?_;exact Kd.R_mono (zfR (zfR (zfR (Kd.R_types HO610.1 BK576.1 (by decide))))) (fun _ hk=>hk.1),zB3⟩
    rw [if_pos c88] at H
    have c88b0:=decide_eq_true c88
    clear c88
    replace H:=zIt H
    obtain ⟨c89b0,H⟩:=H
    replace H:=zIt H
    obtain ⟨c90b0,H⟩:=H
    generalize hy615:((y580.set (t598:Int).toNat t613):List Int)=y615 at H
    have Ny615:=zM hy615.symm
    clear hy615
    simp only [Option.some.injEq,Prod.mk.injEq] at H
    obtain ⟨rfl,rfl,rfl,rfl⟩:=H
    have hnb92:=NB575_576.1
    have hnc92:=NB576_575.1
    have hcz93:=zc_3 (w:=wc) BK575.1
    obtain ⟨p590,q590,ad590,e590,hx590_0⟩:=zRd (Kd.at_int HR0.1 a1_1)
    cases e590
    replace hx590_0:=zHx HB.1 hx590_0
    try go_wp2_with (first|((with_reducible refine zG Try.func108 38 #[.int .i64 (rd l0 a1_1)] ?_);(with_reducible refine (spec_Decode.calls (rd l0 a1_1) t591 t592 t593 t594 t595 t596 _ A30.1).mono ?_);rintro e w94 ⟨rfl,hb⟩;refine ⟨_,rfl,?_⟩;replace HO_6:=zM (Kd.R_below (zR HO_6.1) hb);replace BK575:=zM (zb BK575.1 hb);replace BK576:=zM (zb BK576.1 hb);replace HB:=zM (below_step zB3 hb);clear hb)|((with_reducible refine zBx 7 57 #[.int .i64 0,.int .i64 0,.int .i64 0,.int .i64 0,.int .i64 0] ?_);intro gb597 hg w95 hbox hb;replace HO_6:=zM (Kd.R_below (zR HO_6.1) hb);have BK597:=zM hbox;have GW597:=zM (zW hg (below_size zB3));have GE597:=zM (zW hg (below_size zB3));replace HB:=zM (below_step zB3 hb);have NB575_597:=zM ((zn BK575.1 hg:gb575≠gb597));have NB597_575:=zM ((zm BK575.1 hg:gb597≠gb575));replace BK575:=zM (zb BK575.1 hb);have NB576_597:=zM ((zn BK576.1 hg:gb576≠gb597));have NB597_576:=zM ((zm BK576.1 hg:gb597≠gb576));replace BK576:=zM (zb BK576.1 hb);clear hb hbox hg;have hnb96:=NB597_575.1;have hnc96:=NB575_597.1;have hnb97:=NB597_576.1;have hnc97:=NB576_597.1;have hcz98:=zc_5 (w:=w95) BK597.1;have hcz99:=zc_3 (w:=w95) BK575.1)|((with_reducible refine zG Try.func109 44 #[.agg #[.int .i64 t591,.int .i64 t592,.int .i64 t593,.int .i64 t594,.int .i64 t595],.slice A1_0 l1_0.length c1_0] ?_);(with_reducible refine (spec_Target.calls t591 t592 t593 t594 t595 _ _ l1_0 t598 _ ?side1 ?side2 A31.1).mono ?_);(case side1=>exact Kd.C_below HR1_0.1 zB3);(case side2=>exact HC1_0.1);rintro e w100 ⟨rfl,hb⟩;refine ⟨_,rfl,?_⟩;replace HO_6:=zM (Kd.R_below (by refine zrR ?_;exact (Kd.R_mono (zfR (zfR (zfR (zfR (zfR (Kd.R_types HO_6.1 BK597.1 (by decide))))))) (fun _ h_=>h_.1))) hb);replace BK575:=zM (zf BK575.1 hb);replace BK576:=zM (zf BK576.1 hb);replace BK597:=zM (blk_below (g:=gb597) (o:= .cells #[.int .i64 t591,.int .i64 t592,.int .i64 t593,.int .i64 t594,.int .i64 t595] 57 (0,0)) (by exact zp5 (zK BK597.1)) hb);replace HB:=zM (below_step zB3 hb);clear hb;have hcz101:=zc_3 (w:=w100) BK575.1;have hcz102:=zc_5 (w:=w100) BK597.1)|((with_reducible refine zG Try.func110 55 #[.agg #[.slice A1_0 l1_0.length c1_0,.int .i64 a1_1,.int .i64 a1_2],.agg #[.int .i64 t591,.int .i64 t592,.int .i64 t593,.int .i64 t594,.int .i64 t595],.int .i64 0] ?_);(with_reducible refine (spec_Work.calls kj3 _ _ l1_0 a1_1 a1_2 t591 t592 t593 t594 t595 0 t608 t611 t612 t613 _ ?side1 ?side2 A87.1).mono ?_);(case side1=>exact zC (Kd.C_below HR1_0.1 HB.1));(case side2=>exact HC1_0.1);rintro e w103 ⟨v609,rfl,ho0,hb⟩;refine ⟨_,rfl,?_⟩;have HO610:=zM (Kd.R_lower (Kd.R_new' ho0 (Kd.R_lt (zR HO_6.1))) (below_size zB3));replace HO_6:=zM (Kd.R_elder' (zR HO_6.1) (Kd.R_base ho0) hb);replace BK575:=zM (zb BK575.1 hb);replace BK576:=zM (zb BK576.1 hb);replace BK597:=zM (zb BK597.1 hb);replace HB:=zM (below_step zB3 hb);clear hb ho0)|((with_reducible refine zBx 11 72 #[.slice none 0 0,.int .i64 0,.int .i64 0] ?_);intro gb614 hg w104 hbox hb;replace HO_6:=zM (Kd.R_below (zR HO_6.1) hb);replace HO610:=zM (Kd.R_below (zR HO610.1) hb);have BK614:=zM hbox;have GW614:=zM (zW hg (below_size zB3));have GE614:=zM (zW hg (below_size zB3));replace HB:=zM (below_step zB3 hb);have NB575_614:=zM ((zn BK575.1 hg:gb575≠gb614));have NB614_575:=zM ((zm BK575.1 hg:gb614≠gb575));replace BK575:=zM (zb BK575.1 hb);have NB576_614:=zM ((zn BK576.1 hg:gb576≠gb614));have NB614_576:=zM ((zm BK576.1 hg:gb614≠gb576));replace BK576:=zM (zb BK576.1 hb);have NB597_614:=zM ((zn BK597.1 hg:gb597≠gb614));have NB614_597:=zM ((zm BK597.1 hg:gb614≠gb597));replace BK597:=zM (zb BK597.1 hb);clear hb hbox hg;obtain ⟨Ao105,co105,eo105⟩:=Kd.R_slice HO610.1;subst eo105;have hnb106:=NB614_575.1;have hnc106:=NB575_614.1;have hnb107:=NB614_576.1;have hnc107:=NB576_614.1;have hnb108:=NB614_597.1;have hnc108:=NB597_614.1;have hcz109:=zc_3 (w:=w104) BK614.1)|((with_reducible refine gate_store (t:=72) (p:=11) rfl ?_);refine store_event (t:=72) (p:=11) (v:=?vo_w110) (w1:=(((w104.setCell ⟨gb614,0,none⟩ (.slice Ao105 t608.length co105)).setCell ⟨gb614,1,none⟩ (.int .i64 t611)).setCell ⟨gb614,2,none⟩ (.int .i64 t612))) ?hg ?ho ?hn ?hr ?_;(case ho=>rfl);(case hg=>rfl);(case hn=>rfl);(case hr=>exact zHH);intro w110 hw;have n0_:Aside0 (Kd.R (Kd.int .i64) 3 w110 w.heap.size (fun k_=>some k_≠(.slice Ao105 t608.length co105:Value).ownBlock) v581 y580):=⟨(by rw [hw];exact (by refine zrR ?_;exact Kd.R_mono (zfR (zfR (zfR (Kd.R_types HO_6.1 BK614.1 (by decide))))) (fun _ hk=>hk.1.2)))⟩;have n1_:Aside0 (Kd.R (Kd.int .i64) 3 w110 w.heap.size (fun k_=>some k_≠(v581:Value).ownBlock) (.slice Ao105 t608.length co105) t608):=⟨(by rw [hw];exact (by refine zrR ?_;exact Kd.R_mono (zfR (zfR (zfR (Kd.R_types HO610.1 BK614.1 (by decide))))) (fun _ hk=>hk.1.2)))⟩;have n2_:Aside0 (w110.heap[gb575]? =some (.cells #[.slice A1_0 l1_0.length c1_0,.int .i64 a1_1,.int .i64 a1_2] 72 (0,0))):=⟨(by rw [hw];exact zPq)⟩;have n3_:Aside0 (w110.heap[gb576]? =some (.cells #[.slice none 0 0,.int .i64 0,.int .i64 0] 72 (0,0))):=⟨(by rw [hw];exact zPq)⟩;have n4_:Aside0 (w110.heap[gb597]? =some (.cells #[.int .i64 t591,.int .i64 t592,.int .i64 t593,.int .i64 t594,.int .i64 t595] 57 (0,0))):=⟨(by rw [hw];exact zPq)⟩;have n5_:Aside0 (w110.heap[gb614]? =some (.cells #[.slice Ao105 t608.length co105,.int .i64 t611,.int .i64 t612] 72 (0,0))):=⟨(by rw [hw];exact (by exact zp3 (zK BK614.1)))⟩;have n6_:Aside0 (Below w.heap.size w w110):=⟨(by rw [hw];exact zB3)⟩;clear hw;clear HO_6;clear HO610;clear BK575;clear BK576;clear BK597;clear BK614;clear HB;have HO_6:=n0_;have HO610:=n1_;have BK575:=n2_;have BK576:=n3_;have BK597:=n4_;have BK614:=n5_;have HB:=n6_;clear n0_ n1_ n2_ n3_ n4_ n5_ n6_;have p91:0≤(t598:Int):=zA;have q91:(t598:Int)<((y580.length:Int):Int):=zA;obtain ⟨go91,co91,eo91,gb91,gl91,cl91,HG91⟩:=Kd.R_form HO_6.1 (by omega);(first|cases eo91|(injection eo91 with ea_ en_ ec_;(first|subst ea_|(injection ea_ with ea_;subst ea_));subst ec_;clear en_));have GB91:=zM gb91;have GG91:=zM HG91;clear gb91 gl91 HG91;obtain ⟨hx91_0,hf91_0⟩:=Kd.R_celln 0 HO_6.1 (t598:Int) p91 q91;replace p91:=eq_true p91;replace q91:=eq_true q91;obtain ⟨hy111_,hz111_⟩:=Kd.R_celln 0 HO_6.1 (t598:Int) zA zA;have HP111:=Kd.R_putg HO_6.1 (t598:Int) t613)|((with_reducible refine gate_store (t:=3) (p:=63) rfl ?_);refine store_event (t:=3) (p:=63) (v:=?vo_w112) (w1:=(w110.setCell ⟨go91,(t598:Int).toNat,none⟩ (.int .i64 t613))) ?hg ?ho ?hn ?hr ?_;(case ho=>rfl);(case hg=>rfl);(case hn=>rfl);(case hr=>exact zHH);intro w112 hw;have hg:w110.grownBy w112 (some go91):=(by rw [hw];exact HP111.2);have hp_:Kd.R (Kd.int .i64) 3 w112 w.heap.size (fun k_=>some k_≠(.slice Ao105 t608.length co105:Value).ownBlock) (.slice (some ⟨go91,0,none⟩) y580.length co91) y615:=(by rw [hw,Ny615.1];exact HP111.1);clear HP111;replace BK575:=zM (zg BK575.1 hg (Kd.R_ne HO_6.1 BK575.1 (by decide)));replace BK576:=zM (zg BK576.1 hg (Kd.R_ne HO_6.1 BK576.1 (by decide)));replace BK597:=zM (zg BK597.1 hg (Kd.R_ne HO_6.1 BK597.1 (by decide)));replace HO610:=zM (Kd.R_after (v:=(.slice (some ⟨go91,0,none⟩) y580.length co91)) (v1:=(.slice (some ⟨go91,0,none⟩) y580.length co91)) (ok:=(fun _=>True)) (by refine zrR ?_;exact Kd.R_mono HO610.1 (fun _ hk=>⟨trivial,hk⟩)) hg (.inl rfl));replace BK614:=zM (zg BK614.1 hg (Kd.R_ne HO_6.1 BK614.1 (by decide)));replace HO_6:=zM hp_;replace HB:=zM ((by rw [hw];exact below_set (HB.1) GB91.1:Below w.heap.size w w112));clear hg hw hp_))
    replace HO_6:=zM (Kd.R_drew HO_6.1)
    replace HO610:=zM (Kd.R_drew HO610.1)
    replace BK575:=zM (blk_drew BK575.1)
    replace BK576:=zM (blk_drew BK576.1)
    replace BK597:=zM (blk_drew BK597.1)
    replace BK614:=zM (blk_drew BK614.1)
    replace HB:=zM (below_drew1 HB.1)
    refine start_ (n:=4) (S:=fun w'=>w'.cell? ⟨gb614,0,none⟩=some (.slice Ao105 t608.length co105)∧w'.cell? ⟨gb614,1,none⟩=some (.int .i64 t611)∧w'.cell? ⟨gb614,2,none⟩=some (.int .i64 t612)) (ds:=[]) #[false,false,false,false] (by kernel_rfl) rfl rfl ⟨(blk_cell BK614.1 0).trans rfl,(blk_cell BK614.1 1).trans rfl,(blk_cell BK614.1 2).trans rfl⟩ (fun hHeld=>?_)
    generalize w112.drew=w113 at HO_6 HO610 BK575 BK576 BK597 BK614 HB hHeld ⊢
    refine zPu 0 ?_
    refine zPu 2 ?_
    refine zTk3 1 hHeld ?_
    refine zOn 3 none fun K hK=>?_
    obtain ⟨hs114,hfs114⟩:=zHs BK576.1 0
    have hns114_0:=NB575_576.1
    have hns114_2:=NB597_576.1
    have hns114_3:=NB614_576.1
    have hms114_0:=NB576_575.1
    have hms114_2:=NB576_597.1
    have hms114_3:=NB576_614.1
    obtain ⟨hs115,hfs115⟩:=zHs BK576.1 1
    have hns115_0:=NB575_576.1
    have hns115_2:=NB597_576.1
    have hns115_3:=NB614_576.1
    have hms115_0:=NB576_575.1
    have hms115_2:=NB576_597.1
    have hms115_3:=NB576_614.1
    obtain ⟨hs116,hfs116⟩:=zHs BK576.1 2
    have hns116_0:=NB575_576.1
    have hns116_2:=NB597_576.1
    have hns116_3:=NB614_576.1
    have hms116_0:=NB576_575.1
    have hms116_2:=NB576_597.1
    have hms116_3:=NB576_614.1
    refine skip_ (w1:=?_) (by rfl) rfl ?_ ?_
    rotate_left
    ·go_simp
     rfl
    refine hK.out _ _ zCs fun hHeld=>?_
    clear hK K
    refine done_ (by kernel_rfl) ?_
    try go_wp2
    refine bodyPost_ret (results_tc rfl _ _ gb576 72 #[.slice Ao105 t608.length co105,.int .i64 t611,.int .i64 t612] (0,0) _ rfl (by exact zp3 (zK BK576.1)) Try.underlying72 rfl (by kernel_rfl)) rfl ?_
    exact ⟨_,_,zE,by refine zrR ?_;exact Kd.R_mono (zfR (zfR (zfR (Kd.R_types HO_6.1 BK576.1 (by decide))))) (fun _ hk=>hk.1),by refine zrR ?_;exact Kd.R_mono (zfR (zfR (zfR (Kd.R_types HO610.1 BK576.1 (by decide))))) (fun _ hk=>hk.1.2),zB3⟩
   rw [if_pos c32] at H
   have c32b0:=decide_eq_true c32
   clear c32
   replace H:=zIt H
   obtain ⟨c33b0,H⟩:=H
   replace H:=zIt H
   obtain ⟨c34b0,H⟩:=H
   replace H:=zO H
   obtain ⟨⟨t600,t603,t604,t605⟩,A35,H⟩:=H
   try dsimp only at H
   by_cases c36:t605≥0
   rotate_left
   ·rw [if_neg c36] at H
    have c36b0:=decide_eq_false c36
    clear c36
    simp only [Option.some.injEq,Prod.mk.injEq] at H
    obtain ⟨rfl,rfl,rfl,rfl⟩:=H
    have hnb64:=NB575_576.1
    have hnc64:=NB576_575.1
    have hcz65:=zc_3 (w:=wc) BK575.1
    obtain ⟨p590,q590,ad590,e590,hx590_0⟩:=zRd (Kd.at_int HR0.1 a1_1)
    cases e590
    replace hx590_0:=zHx HB.1 hx590_0
    try go_wp2_with (first|((with_reducible refine zG Try.func108 38 #[.int .i64 (rd l0 a1_1)] ?_);(with_reducible refine (spec_Decode.calls (rd l0 a1_1) t591 t592 t593 t594 t595 t596 _ A30.1).mono ?_);rintro e w66 ⟨rfl,hb⟩;refine ⟨_,rfl,?_⟩;replace HO_6:=zM (Kd.R_below (zR HO_6.1) hb);replace BK575:=zM (zb BK575.1 hb);replace BK576:=zM (zb BK576.1 hb);replace HB:=zM (below_step zB3 hb);clear hb)|((with_reducible refine zBx 7 57 #[.int .i64 0,.int .i64 0,.int .i64 0,.int .i64 0,.int .i64 0] ?_);intro gb597 hg w67 hbox hb;replace HO_6:=zM (Kd.R_below (zR HO_6.1) hb);have BK597:=zM hbox;have GW597:=zM (zW hg (below_size zB3));have GE597:=zM (zW hg (below_size zB3));replace HB:=zM (below_step zB3 hb);have NB575_597:=zM ((zn BK575.1 hg:gb575≠gb597));have NB597_575:=zM ((zm BK575.1 hg:gb597≠gb575));replace BK575:=zM (zb BK575.1 hb);have NB576_597:=zM ((zn BK576.1 hg:gb576≠gb597));have NB597_576:=zM ((zm BK576.1 hg:gb597≠gb576));replace BK576:=zM (zb BK576.1 hb);clear hb hbox hg;have hnb68:=NB597_575.1;have hnc68:=NB575_597.1;have hnb69:=NB597_576.1;have hnc69:=NB576_597.1;have hcz70:=zc_5 (w:=w67) BK597.1;have hcz71:=zc_3 (w:=w67) BK575.1)|((with_reducible refine zG Try.func109 44 #[.agg #[.int .i64 t591,.int .i64 t592,.int .i64 t593,.int .i64 t594,.int .i64 t595],.slice A1_0 l1_0.length c1_0] ?_);(with_reducible refine (spec_Target.calls t591 t592 t593 t594 t595 _ _ l1_0 t598 _ ?side1 ?side2 A31.1).mono ?_);(case side1=>exact Kd.C_below HR1_0.1 zB3);(case side2=>exact HC1_0.1);rintro e w72 ⟨rfl,hb⟩;refine ⟨_,rfl,?_⟩;replace HO_6:=zM (Kd.R_below (by refine zrR ?_;exact (Kd.R_mono (zfR (zfR (zfR (zfR (zfR (Kd.R_types HO_6.1 BK597.1 (by decide))))))) (fun _ h_=>h_.1))) hb);replace BK575:=zM (zf BK575.1 hb);replace BK576:=zM (zf BK576.1 hb);replace BK597:=zM (blk_below (g:=gb597) (o:= .cells #[.int .i64 t591,.int .i64 t592,.int .i64 t593,.int .i64 t594,.int .i64 t595] 57 (0,0)) (by exact zp5 (zK BK597.1)) hb);replace HB:=zM (below_step zB3 hb);clear hb;have p599:0≤(t598:Int):=zA;have q599:t598<(l0.length:Int):=zA;obtain ⟨ad599,e599,hx599_0⟩:=Kd.at_int HR0.1 t598 p599 q599;obtain rfl:ad590=ad599:=(by injection e599);replace hx599_0:=zHx HB.1 hx599_0;replace p599:=eq_true p599;replace q599:=eq_true q599;have hcz73:=zc_3 (w:=w72) BK575.1;have hcz74:=zc_5 (w:=w72) BK597.1)|((with_reducible refine zG Try.func110 55 #[.agg #[.slice A1_0 l1_0.length c1_0,.int .i64 a1_1,.int .i64 a1_2],.agg #[.int .i64 t591,.int .i64 t592,.int .i64 t593,.int .i64 t594,.int .i64 t595],.int .i64 (rd l0 t598)] ?_);(with_reducible refine (spec_Work.calls kj3 _ _ l1_0 a1_1 a1_2 t591 t592 t593 t594 t595 (rd l0 t598) t600 t603 t604 t605 _ ?side1 ?side2 A35.1).mono ?_);(case side1=>exact zC (Kd.C_below HR1_0.1 HB.1));(case side2=>exact HC1_0.1);rintro e w75 ⟨v601,rfl,ho0,hb⟩;refine ⟨_,rfl,?_⟩;have HO602:=zM (Kd.R_lower (Kd.R_new' ho0 (Kd.R_lt (zR HO_6.1))) (below_size zB3));replace HO_6:=zM (Kd.R_elder' (zR HO_6.1) (Kd.R_base ho0) hb);replace BK575:=zM (zb BK575.1 hb);replace BK576:=zM (zb BK576.1 hb);replace BK597:=zM (zb BK597.1 hb);replace HB:=zM (below_step zB3 hb);clear hb ho0)|((with_reducible refine zBx 11 72 #[.slice none 0 0,.int .i64 0,.int .i64 0] ?_);intro gb606 hg w76 hbox hb;replace HO_6:=zM (Kd.R_below (zR HO_6.1) hb);replace HO602:=zM (Kd.R_below (zR HO602.1) hb);have BK606:=zM hbox;have GW606:=zM (zW hg (below_size zB3));have GE606:=zM (zW hg (below_size zB3));replace HB:=zM (below_step zB3 hb);have NB575_606:=zM ((zn BK575.1 hg:gb575≠gb606));have NB606_575:=zM ((zm BK575.1 hg:gb606≠gb575));replace BK575:=zM (zb BK575.1 hb);have NB576_606:=zM ((zn BK576.1 hg:gb576≠gb606));have NB606_576:=zM ((zm BK576.1 hg:gb606≠gb576));replace BK576:=zM (zb BK576.1 hb);have NB597_606:=zM ((zn BK597.1 hg:gb597≠gb606));have NB606_597:=zM ((zm BK597.1 hg:gb606≠gb597));replace BK597:=zM (zb BK597.1 hb);clear hb hbox hg;obtain ⟨Ao77,co77,eo77⟩:=Kd.R_slice HO602.1;subst eo77;have hnb78:=NB606_575.1;have hnc78:=NB575_606.1;have hnb79:=NB606_576.1;have hnc79:=NB576_606.1;have hnb80:=NB606_597.1;have hnc80:=NB597_606.1;have hcz81:=zc_3 (w:=w76) BK606.1))
    generalize hw_:(((w76.setCell ⟨gb606,0,none⟩ (.slice Ao77 t600.length co77)).setCell ⟨gb606,1,none⟩ (.int .i64 t603)).setCell ⟨gb606,2,none⟩ (.int .i64 t604))=w82
    have n0_:Aside0 (Kd.R (Kd.int .i64) 3 w82 w.heap.size (fun k_=>some k_≠(.slice Ao77 t600.length co77:Value).ownBlock) v581 y580):=⟨by rw [←hw_];refine zrR ?_;exact Kd.R_mono (zfR (zfR (zfR (Kd.R_types HO_6.1 BK606.1 (by decide))))) (fun _ hk=>hk.1.2)⟩
    have n1_:Aside0 (Kd.R (Kd.int .i64) 3 w82 w.heap.size (fun k_=>some k_≠(v581:Value).ownBlock) (.slice Ao77 t600.length co77) t600):=⟨by rw [←hw_];refine zrR ?_;exact Kd.R_mono (zfR (zfR (zfR (Kd.R_types HO602.1 BK606.1 (by decide))))) (fun _ hk=>hk.1.2)⟩
    have n2_:Aside0 (w82.heap[gb575]? =some (.cells #[.slice A1_0 l1_0.length c1_0,.int .i64 a1_1,.int .i64 a1_2] 72 (0,0))):=⟨by rw [←hw_];exact zPq⟩
    have n3_:Aside0 (w82.heap[gb576]? =some (.cells #[.slice none 0 0,.int .i64 0,.int .i64 0] 72 (0,0))):=⟨by rw [←hw_];exact zPq⟩
    have n4_:Aside0 (w82.heap[gb597]? =some (.cells #[.int .i64 t591,.int .i64 t592,.int .i64 t593,.int .i64 t594,.int .i64 t595] 57 (0,0))):=⟨by rw [←hw_];exact zPq⟩
    have n5_:Aside0 (w82.heap[gb606]? =some (.cells #[.slice Ao77 t600.length co77,.int .i64 t603,.int .i64 t604] 72 (0,0))):=⟨by rw [←hw_];exact zp3 (zK BK606.1)⟩
    have n6_:Aside0 (Below w.heap.size w w82):=⟨by rw [←hw_];exact zB3⟩
    (try clear HO_6)
    (try clear HO602)
    (try clear BK575)
    (try clear BK576)
    (try clear BK597)
    (try clear BK606)
    (try clear HB)
    clear hw_
    have HO_6:=n0_
    have HO602:=n1_
    have BK575:=n2_
    have BK576:=n3_
    have BK597:=n4_
    have BK606:=n5_
    have HB:=n6_
    clear n0_ n1_ n2_ n3_ n4_ n5_ n6_
    replace HO_6:=zM (Kd.R_drew HO_6.1)
    replace HO602:=zM (Kd.R_drew HO602.1)
    replace BK575:=zM (blk_drew BK575.1)
    replace BK576:=zM (blk_drew BK576.1)
    replace BK597:=zM (blk_drew BK597.1)
    replace BK606:=zM (blk_drew BK606.1)
    replace HB:=zM (below_drew1 HB.1)
    refine start_ (n:=4) (S:=fun w'=>w'.cell? ⟨gb606,0,none⟩=some (.slice Ao77 t600.length co77)∧w'.cell? ⟨gb606,1,none⟩=some (.int .i64 t603)∧w'.cell? ⟨gb606,2,none⟩=some (.int .i64 t604)) (ds:=[]) #[false,false,false,false] (by kernel_rfl) rfl rfl ⟨(blk_cell BK606.1 0).trans rfl,(blk_cell BK606.1 1).trans rfl,(blk_cell BK606.1 2).trans rfl⟩ (fun hHeld=>?_)
    generalize w82.drew=w83 at HO_6 HO602 BK575 BK576 BK597 BK606 HB hHeld ⊢
    refine zPu 0 ?_
    refine zPu 2 ?_
    refine zTk3 1 hHeld ?_
    refine zOn 3 none fun K hK=>?_
    obtain ⟨hs84,hfs84⟩:=zHs BK576.1 0
    have hns84_0:=NB575_576.1
    have hns84_2:=NB597_576.1
    have hns84_3:=NB606_576.1
    have hms84_0:=NB576_575.1
    have hms84_2:=NB576_597.1
    have hms84_3:=NB576_606.1
    obtain ⟨hs85,hfs85⟩:=zHs BK576.1 1
    have hns85_0:=NB575_576.1
    have hns85_2:=NB597_576.1
    have hns85_3:=NB606_576.1
    have hms85_0:=NB576_575.1
    have hms85_2:=NB576_597.1
    have hms85_3:=NB576_606.1
    obtain ⟨hs86,hfs86⟩:=zHs BK576.1 2
    have hns86_0:=NB575_576.1
    have hns86_2:=NB597_576.1
    have hns86_3:=NB606_576.1
    have hms86_0:=NB576_575.1
    have hms86_2:=NB576_597.1
    have hms86_3:=NB576_606.1
    refine skip_ (w1:=?_) (by rfl) rfl ?_ ?_
    rotate_left
    ·go_simp
     rfl
    refine hK.out _ _ zCs fun hHeld=>?_
    clear hK K
    refine done_ (by kernel_rfl) ?_
    try go_wp2
    refine bodyPost_ret (results_tc rfl _ _ gb576 72 #[.slice Ao77 t600.length co77,.int .i64 t603,.int .i64 t604] (0,0) _ rfl (by exact zp3 (zK BK576.1)) Try.underlying72 rfl (by kernel_rfl)) rfl ?_
    exact ⟨_,_,zE,by refine zrR ?_;exact Kd.R_mono (zfR (zfR (zfR (Kd.R_types HO_6.1 BK576.1 (by decide))))) (fun _ hk=>hk.1),by refine zrR ?_;exact Kd.R_mono (zfR (zfR (zfR (Kd.R_types HO602.1 BK576.1 (by decide))))) (fun _ hk=>hk.1),zB3⟩
   rw [if_pos c36] at H
   have c36b0:=decide_eq_true c36
   clear c36
   replace H:=zIt H
   obtain ⟨c37b0,H⟩:=H
   generalize hy607:((y580.set (t598:Int).toNat t605):List Int)=y607 at H
   have Ny607:=zM hy607.symm
   clear hy607
   simp only [Option.some.injEq,Prod.mk.injEq] at H
   obtain ⟨rfl,rfl,rfl,rfl⟩:=H
   have hnb39:=NB575_576.1
   have hnc39:=NB576_575.1
   have hcz40:=zc_3 (w:=wc) BK575.1
   obtain ⟨p590,q590,ad590,e590,hx590_0⟩:=zRd (Kd.at_int HR0.1 a1_1)
   cases e590
   replace hx590_0:=zHx HB.1 hx590_0
   try go_wp2_with (first|((with_reducible refine zG Try.func108 38 #[.int .i64 (rd l0 a1_1)] ?_);(with_reducible refine (spec_Decode.calls (rd l0 a1_1) t591 t592 t593 t594 t595 t596 _ A30.1).mono ?_);rintro e w41 ⟨rfl,hb⟩;refine ⟨_,rfl,?_⟩;replace HO_6:=zM (Kd.R_below (zR HO_6.1) hb);replace BK575:=zM (zb BK575.1 hb);replace BK576:=zM (zb BK576.1 hb);replace HB:=zM (below_step zB3 hb);clear hb)|((with_reducible refine zBx 7 57 #[.int .i64 0,.int .i64 0,.int .i64 0,.int .i64 0,.int .i64 0] ?_);intro gb597 hg w42 hbox hb;replace HO_6:=zM (Kd.R_below (zR HO_6.1) hb);have BK597:=zM hbox;have GW597:=zM (zW hg (below_size zB3));have GE597:=zM (zW hg (below_size zB3));replace HB:=zM (below_step zB3 hb);have NB575_597:=zM ((zn BK575.1 hg:gb575≠gb597));have NB597_575:=zM ((zm BK575.1 hg:gb597≠gb575));replace BK575:=zM (zb BK575.1 hb);have NB576_597:=zM ((zn BK576.1 hg:gb576≠gb597));have NB597_576:=zM ((zm BK576.1 hg:gb597≠gb576));replace BK576:=zM (zb BK576.1 hb);clear hb hbox hg;have hnb43:=NB597_575.1;have hnc43:=NB575_597.1;have hnb44:=NB597_576.1;have hnc44:=NB576_597.1;have hcz45:=zc_5 (w:=w42) BK597.1;have hcz46:=zc_3 (w:=w42) BK575.1)|((with_reducible refine zG Try.func109 44 #[.agg #[.int .i64 t591,.int .i64 t592,.int .i64 t593,.int .i64 t594,.int .i64 t595],.slice A1_0 l1_0.length c1_0] ?_);(with_reducible refine (spec_Target.calls t591 t592 t593 t594 t595 _ _ l1_0 t598 _ ?side1 ?side2 A31.1).mono ?_);(case side1=>exact Kd.C_below HR1_0.1 zB3);(case side2=>exact HC1_0.1);rintro e w47 ⟨rfl,hb⟩;refine ⟨_,rfl,?_⟩;replace HO_6:=zM (Kd.R_below (by refine zrR ?_;exact (Kd.R_mono (zfR (zfR (zfR (zfR (zfR (Kd.R_types HO_6.1 BK597.1 (by decide))))))) (fun _ h_=>h_.1))) hb);replace BK575:=zM (zf BK575.1 hb);replace BK576:=zM (zf BK576.1 hb);replace BK597:=zM (blk_below (g:=gb597) (o:= .cells #[.int .i64 t591,.int .i64 t592,.int .i64 t593,.int .i64 t594,.int .i64 t595] 57 (0,0)) (by exact zp5 (zK BK597.1)) hb);replace HB:=zM (below_step zB3 hb);clear hb;have p599:0≤(t598:Int):=zA;have q599:t598<(l0.length:Int):=zA;obtain ⟨ad599,e599,hx599_0⟩:=Kd.at_int HR0.1 t598 p599 q599;obtain rfl:ad590=ad599:=(by injection e599);replace hx599_0:=zHx HB.1 hx599_0;replace p599:=eq_true p599;replace q599:=eq_true q599;have hcz48:=zc_3 (w:=w47) BK575.1;have hcz49:=zc_5 (w:=w47) BK597.1)|((with_reducible refine zG Try.func110 55 #[.agg #[.slice A1_0 l1_0.length c1_0,.int .i64 a1_1,.int .i64 a1_2],.agg #[.int .i64 t591,.int .i64 t592,.int .i64 t593,.int .i64 t594,.int .i64 t595],.int .i64 (rd l0 t598)] ?_);(with_reducible refine (spec_Work.calls kj3 _ _ l1_0 a1_1 a1_2 t591 t592 t593 t594 t595 (rd l0 t598) t600 t603 t604 t605 _ ?side1 ?side2 A35.1).mono ?_);(case side1=>exact zC (Kd.C_below HR1_0.1 HB.1));(case side2=>exact HC1_0.1);rintro e w50 ⟨v601,rfl,ho0,hb⟩;refine ⟨_,rfl,?_⟩;have HO602:=zM (Kd.R_lower (Kd.R_new' ho0 (Kd.R_lt (zR HO_6.1))) (below_size zB3));replace HO_6:=zM (Kd.R_elder' (zR HO_6.1) (Kd.R_base ho0) hb);replace BK575:=zM (zb BK575.1 hb);replace BK576:=zM (zb BK576.1 hb);replace BK597:=zM (zb BK597.1 hb);replace HB:=zM (below_step zB3 hb);clear hb ho0)|((with_reducible refine zBx 11 72 #[.slice none 0 0,.int .i64 0,.int .i64 0] ?_);intro gb606 hg w51 hbox hb;replace HO_6:=zM (Kd.R_below (zR HO_6.1) hb);replace HO602:=zM (Kd.R_below (zR HO602.1) hb);have BK606:=zM hbox;have GW606:=zM (zW hg (below_size zB3));have GE606:=zM (zW hg (below_size zB3));replace HB:=zM (below_step zB3 hb);have NB575_606:=zM ((zn BK575.1 hg:gb575≠gb606));have NB606_575:=zM ((zm BK575.1 hg:gb606≠gb575));replace BK575:=zM (zb BK575.1 hb);have NB576_606:=zM ((zn BK576.1 hg:gb576≠gb606));have NB606_576:=zM ((zm BK576.1 hg:gb606≠gb576));replace BK576:=zM (zb BK576.1 hb);have NB597_606:=zM ((zn BK597.1 hg:gb597≠gb606));have NB606_597:=zM ((zm BK597.1 hg:gb606≠gb597));replace BK597:=zM (zb BK597.1 hb);clear hb hbox hg;obtain ⟨Ao52,co52,eo52⟩:=Kd.R_slice HO602.1;subst eo52;have hnb53:=NB606_575.1;have hnc53:=NB575_606.1;have hnb54:=NB606_576.1;have hnc54:=NB576_606.1;have hnb55:=NB606_597.1;have hnc55:=NB597_606.1;have hcz56:=zc_3 (w:=w51) BK606.1)|((with_reducible refine gate_store (t:=72) (p:=11) rfl ?_);refine store_event (t:=72) (p:=11) (v:=?vo_w57) (w1:=(((w51.setCell ⟨gb606,0,none⟩ (.slice Ao52 t600.length co52)).setCell ⟨gb606,1,none⟩ (.int .i64 t603)).setCell ⟨gb606,2,none⟩ (.int .i64 t604))) ?hg ?ho ?hn ?hr ?_;(case ho=>rfl);(case hg=>rfl);(case hn=>rfl);(case hr=>exact zHH);intro w57 hw;have n0_:Aside0 (Kd.R (Kd.int .i64) 3 w57 w.heap.size (fun k_=>some k_≠(.slice Ao52 t600.length co52:Value).ownBlock) v581 y580):=⟨(by rw [hw];exact (by refine zrR ?_;exact Kd.R_mono (zfR (zfR (zfR (Kd.R_types HO_6.1 BK606.1 (by decide))))) (fun _ hk=>hk.1.2)))⟩;have n1_:Aside0 (Kd.R (Kd.int .i64) 3 w57 w.heap.size (fun k_=>some k_≠(v581:Value).ownBlock) (.slice Ao52 t600.length co52) t600):=⟨(by rw [hw];exact (by refine zrR ?_;exact Kd.R_mono (zfR (zfR (zfR (Kd.R_types HO602.1 BK606.1 (by decide))))) (fun _ hk=>hk.1.2)))⟩;have n2_:Aside0 (w57.heap[gb575]? =some (.cells #[.slice A1_0 l1_0.length c1_0,.int .i64 a1_1,.int .i64 a1_2] 72 (0,0))):=⟨(by rw [hw];exact zPq)⟩;have n3_:Aside0 (w57.heap[gb576]? =some (.cells #[.slice none 0 0,.int .i64 0,.int .i64 0] 72 (0,0))):=⟨(by rw [hw];exact zPq)⟩;have n4_:Aside0 (w57.heap[gb597]? =some (.cells #[.int .i64 t591,.int .i64 t592,.int .i64 t593,.int .i64 t594,.int .i64 t595] 57 (0,0))):=⟨(by rw [hw];exact zPq)⟩;have n5_:Aside0 (w57.heap[gb606]? =some (.cells #[.slice Ao52 t600.length co52,.int .i64 t603,.int .i64 t604] 72 (0,0))):=⟨(by rw [hw];exact (by exact zp3 (zK BK606.1)))⟩;have n6_:Aside0 (Below w.heap.size w w57):=⟨(by rw [hw];exact zB3)⟩;clear hw;clear HO_6;clear HO602;clear BK575;clear BK576;clear BK597;clear BK606;clear HB;have HO_6:=n0_;have HO602:=n1_;have BK575:=n2_;have BK576:=n3_;have BK597:=n4_;have BK606:=n5_;have HB:=n6_;clear n0_ n1_ n2_ n3_ n4_ n5_ n6_;have p38:0≤(t598:Int):=zA;have q38:(t598:Int)<((y580.length:Int):Int):=zA;obtain ⟨go38,co38,eo38,gb38,gl38,cl38,HG38⟩:=Kd.R_form HO_6.1 (by omega);(first|cases eo38|(injection eo38 with ea_ en_ ec_;(first|subst ea_|(injection ea_ with ea_;subst ea_));subst ec_;clear en_));have GB38:=zM gb38;have GG38:=zM HG38;clear gb38 gl38 HG38;obtain ⟨hx38_0,hf38_0⟩:=Kd.R_celln 0 HO_6.1 (t598:Int) p38 q38;replace p38:=eq_true p38;replace q38:=eq_true q38;obtain ⟨hy58_,hz58_⟩:=Kd.R_celln 0 HO_6.1 (t598:Int) zA zA;have HP58:=Kd.R_putg HO_6.1 (t598:Int) t605)|((with_reducible refine gate_store (t:=3) (p:=63) rfl ?_);refine store_event (t:=3) (p:=63) (v:=?vo_w59) (w1:=(w57.setCell ⟨go38,(t598:Int).toNat,none⟩ (.int .i64 t605))) ?hg ?ho ?hn ?hr ?_;(case ho=>rfl);(case hg=>rfl);(case hn=>rfl);(case hr=>exact zHH);intro w59 hw;have hg:w57.grownBy w59 (some go38):=(by rw [hw];exact HP58.2);have hp_:Kd.R (Kd.int .i64) 3 w59 w.heap.size (fun k_=>some k_≠(.slice Ao52 t600.length co52:Value).ownBlock) (.slice (some ⟨go38,0,none⟩) y580.length co38) y607:=(by rw [hw,Ny607.1];exact HP58.1);clear HP58;replace BK575:=zM (zg BK575.1 hg (Kd.R_ne HO_6.1 BK575.1 (by decide)));replace BK576:=zM (zg BK576.1 hg (Kd.R_ne HO_6.1 BK576.1 (by decide)));replace BK597:=zM (zg BK597.1 hg (Kd.R_ne HO_6.1 BK597.1 (by decide)));replace HO602:=zM (Kd.R_after (v:=(.slice (some ⟨go38,0,none⟩) y580.length co38)) (v1:=(.slice (some ⟨go38,0,none⟩) y580.length co38)) (ok:=(fun _=>True)) (by refine zrR ?_;exact Kd.R_mono HO602.1 (fun _ hk=>⟨trivial,hk⟩)) hg (.inl rfl));replace BK606:=zM (zg BK606.1 hg (Kd.R_ne HO_6.1 BK606.1 (by decide)));replace HO_6:=zM hp_;replace HB:=zM ((by rw [hw];exact below_set (HB.1) GB38.1:Below w.heap.size w w59));clear hg hw hp_))
   replace HO_6:=zM (Kd.R_drew HO_6.1)
   replace HO602:=zM (Kd.R_drew HO602.1)
   replace BK575:=zM (blk_drew BK575.1)
   replace BK576:=zM (blk_drew BK576.1)
   replace BK597:=zM (blk_drew BK597.1)
   replace BK606:=zM (blk_drew BK606.1)
   replace HB:=zM (below_drew1 HB.1)
   refine start_ (n:=4) (S:=fun w'=>w'.cell? ⟨gb606,0,none⟩=some (.slice Ao52 t600.length co52)∧w'.cell? ⟨gb606,1,none⟩=some (.int .i64 t603)∧w'.cell? ⟨gb606,2,none⟩=some (.int .i64 t604)) (ds:=[]) #[false,false,false,false] (by kernel_rfl) rfl rfl ⟨(blk_cell BK606.1 0).trans rfl,(blk_cell BK606.1 1).trans rfl,(blk_cell BK606.1 2).trans rfl⟩ (fun hHeld=>?_)
   generalize w59.drew=w60 at HO_6 HO602 BK575 BK576 BK597 BK606 HB hHeld ⊢
   refine zPu 0 ?_
   refine zPu 2 ?_
   refine zTk3 1 hHeld ?_
   refine zOn 3 none fun K hK=>?_
   obtain ⟨hs61,hfs61⟩:=zHs BK576.1 0
   have hns61_0:=NB575_576.1
   have hns61_2:=NB597_576.1
   have hns61_3:=NB606_576.1
   have hms61_0:=NB576_575.1
   have hms61_2:=NB576_597.1
   have hms61_3:=NB576_606.1
   obtain ⟨hs62,hfs62⟩:=zHs BK576.1 1
   have hns62_0:=NB575_576.1
   have hns62_2:=NB597_576.1
   have hns62_3:=NB606_576.1
   have hms62_0:=NB576_575.1
   have hms62_2:=NB576_597.1
   have hms62_3:=NB576_606.1
   obtain ⟨hs63,hfs63⟩:=zHs BK576.1 2
   have hns63_0:=NB575_576.1
   have hns63_2:=NB597_576.1
   have hns63_3:=NB606_576.1
   have hms63_0:=NB576_575.1
   have hms63_2:=NB576_597.1
   have hms63_3:=NB576_606.1
   refine skip_ (w1:=?_) (by rfl) rfl ?_ ?_
   rotate_left
   ·go_simp
    rfl
   refine hK.out _ _ zCs fun hHeld=>?_
   clear hK K
   refine done_ (by kernel_rfl) ?_
   try go_wp2
   refine bodyPost_ret (results_tc rfl _ _ gb576 72 #[.slice Ao52 t600.length co52,.int .i64 t603,.int .i64 t604] (0,0) _ rfl (by exact zp3 (zK BK576.1)) Try.underlying72 rfl (by kernel_rfl)) rfl ?_
   exact ⟨_,_,zE,by refine zrR ?_;exact Kd.R_mono (zfR (zfR (zfR (Kd.R_types HO_6.1 BK576.1 (by decide))))) (fun _ hk=>hk.1),by refine zrR ?_;exact Kd.R_mono (zfR (zfR (zfR (Kd.R_types HO602.1 BK576.1 (by decide))))) (fun _ hk=>hk.1.2),zB3⟩

end Go.Proofs.Ytaakcbgpmabaaaa.PFnSeen
