-- made by wip/tools/myprint.py out of the seat's translation
import Derived.Test.YtpcgecacaemalaaPFnStopsx0
import Derived.Test.YtpcgecacaemalaaPFnStopsx6
import Derived.Test.YtpcgecacaemalaaPFnStopsx7
import Derived.Test.YtpcgecacaemalaaPFnStopsx15
import Derived.Test.YtpcgecacaemalaaPFnStopsx16
namespace Go.Proofs.Ytpcgecacaemalaa.PFnStops
open Go.RowKit Go.Proofs.YtpcgecacaemalaaW.PrintWords Go.Proofs.YtpcgecacaemalaaW.PrintLast Go.Proofs.YtpcgecacaemalaaW.PrintMore
attribute [local go_sem] max2_int min2_int max_two min_two max_three min_three max_four min_four -- for this text's walks alone
set_option linter.unusedVariables false
set_option linter.unusedSimpArgs false
set_option maxHeartbeats 8000000
set_option maxRecDepth 100000
abbrev zq19_0:Array Bool:=#[false,false,false,false,false,false,false,false,false,false]
abbrev zq19_7:Array Bool:=#[true,true,true,true,true,true,true,true,true,false]
abbrev zq19_8:Array Bool:=#[true,true,true,true,true,true,true,false,false,false]
abbrev zq19_9:Array Bool:=#[true,true,true,true,true,true,false,false,true,false]
abbrev zq19_13:Array Bool:=#[false,false,false,false,false,false,false,false,false,false,false,false,false]
abbrev zq19_26:Array Bool:=#[true,true,true,true,true,true,true,true,true,true,true,true,true]

/-! ### spec_EventOf: function 69 -/
def spec_EventOf.j0:Nat→List Int→Int→Bool→List Int→Int→Int→Option (Int×Int×Int×Int×Int×Bool)
 |0,_,_,_,_,_,_=>none
 |k+1,x0,x2,x23,x728000,x728001,x728002=>if x23=true then (some (0,0,0,0,0,false)) else (if 0≤x728001 then (if x728001<(x0.length:Int) then ((spec_Decode.f (rd x0 x728001)).bind fun bt732=>((spec_Target.f bt732.1 bt732.2.1 bt732.2.2.1 bt732.2.2.2.1 bt732.2.2.2.2.1 x728000).bind fun t739=>(if t739<0 then (some (x2,x728001,t739,(-1),(-1),true)) else (if 0≤t739 then (if t739<(x0.length:Int) then ((spec_Work.f k x728000 x728001 x728002 bt732.1 bt732.2.1 bt732.2.2.1 bt732.2.2.2.1 bt732.2.2.2.2.1 (rd x0 t739)).bind fun bt742=>(if bt732.1=5 then (some (x2,x728001,t739,(-1),bt742.2.2.2,true)) else (some (x2,x728001,t739,rd x0 t739,bt742.2.2.2,true)))) else (none)) else (none))))) else (none)) else (none))
def spec_EventOf.f (k:Nat) (l0:List Int) (l1_0:List Int) (a1_1:Int) (a1_2:Int) (a2:Int):Option (Int×Int×Int×Int×Int×Bool):=(spec_l1Words.f k l0 24).bind fun t729=>(if t729=true then ((spec_HartOk.f k l1_0 a1_1 a1_2).bind fun t730=>(if t730=true then (spec_EventOf.j0 k l0 a2 (a1_2 != 0) l1_0 a1_1 a1_2) else (spec_EventOf.j0 k l0 a2 true l1_0 a1_1 a1_2))) else (spec_EventOf.j0 k l0 a2 true l1_0 a1_1 a1_2))
theorem spec_EventOf.mono_l: ∀k,(∀y0 y1 y2 y3 y4 y5,LeO (spec_EventOf.j0 k y0 y1 y2 y3 y4 y5) (spec_EventOf.j0 (k+1) y0 y1 y2 y3 y4 y5))
 |0=>fun _ _ _ _ _ _ r h=>by simp [spec_EventOf.j0] at h
 |k+1=>by
  have ih0:=spec_EventOf.mono_l k
  ·intros
   unfold spec_EventOf.j0
   have mo0:=@spec_HartOk.mono
   have mo1:=@spec_Work.mono
   have mo2:=@spec_l1Words.mono
   exact zL
theorem spec_EventOf.mono: ∀a0 a1 a2 a3 a4 k,LeO (spec_EventOf.f k a0 a1 a2 a3 a4) (spec_EventOf.f (k+1) a0 a1 a2 a3 a4):=by
 intro a0 a1 a2 a3 a4 k
 have ih0:=spec_EventOf.mono_l k
 unfold spec_EventOf.f
 have mo0:=@spec_HartOk.mono
 have mo1:=@spec_Work.mono
 have mo2:=@spec_l1Words.mono
 exact zL
def spec_EventOf.T4:Bool×List (List Nat×List Nat):=(true,[([],[]),([],[]),([1],[1]),([],[]),([],[]),([4],[4]),([3,5],[3,5]),([0,2,6],[0,2,6]),([],[]),([8,7,6,0,1,2,3,4,5,6,7,8],[7,8])])
def spec_EventOf.B4:List Nat:=[0,0,2,0,0,16,56,127,0,511]
theorem spec_EventOf.tab4:rtab .any (opsOf Try.f69 4)=spec_EventOf.T4:=by kernel_rfl
theorem spec_EventOf.bits4:waitsOk spec_EventOf.T4.2 spec_EventOf.B4=true:=by kernel_rfl
def spec_EventOf.T7:Bool×List (List Nat×List Nat):=(true,[([],[]),([],[]),([],[]),([],[]),([3],[3]),([2,4],[2,4]),([5],[5]),([0,1,6],[0,1,6]),([7],[7]),([8],[8]),([8],[8]),([0,1,2,3,4,5,6,7,8,9,10],[]),([11,10,7,0,1,2,3,4,5,6,7,8,9,10],[10,11])])
def spec_EventOf.B7:List Nat:=[0,0,0,0,8,28,60,127,255,511,511,2047,4095]
theorem spec_EventOf.tab7:rtab .any (opsOf Try.f69 7)=spec_EventOf.T7:=by kernel_rfl
theorem spec_EventOf.bits7:waitsOk spec_EventOf.T7.2 spec_EventOf.B7=true:=by kernel_rfl
theorem spec_EventOf.calls (k:Nat) (A0:Option Addr) (c0:Nat) (l0:List Int) (A1_0:Option Addr) (c1_0:Nat) (l1_0:List Int) (a1_1:Int) (a1_2:Int) (a2:Int) (r1:Int) (r2:Int) (r3:Int) (r4:Int) (r5:Int) (r6:Bool) (w:World) (hr0:Kd.C (Kd.int .i64) w A0 l0.length l0) (hc0:l0.length≤c0) (hr1_0:Kd.C (Kd.int .i64) w A1_0 l1_0.length l1_0) (hc1_0:l1_0.length≤c1_0) (h:spec_EventOf.f k l0 l1_0 a1_1 a1_2 a2=some (r1,r2,r3,r4,r5,r6)):
  Calls Try.prog 69 #[.slice A0 l0.length c0,.agg #[.slice A1_0 l1_0.length c1_0,.int .i64 a1_1,.int .i64 a1_2],.int .i64 a2] w fun e w'=>e= .returned (.tuple #[.agg #[.int .i64 r1,.int .i64 r2,.int .i64 r3,.int .i64 r4,.int .i64 r5],.bool r6])∧Below w.heap.size w w':=by
 have hu53:=Try.underlying53
 have hu57:=Try.underlying57
 have hu109:=Try.underlying109
 have HR0:=zM hr0
 have HC0:=zM hc0
 clear hr0 hc0
 have HR1_0:=zM hr1_0
 have HC1_0:=zM hc1_0
 clear hr1_0 hc1_0
 have HB:=zM (Below.refl w.heap.size w)
 unfold spec_EventOf.f at h
 have H:=h
 clear h
 have HC4:=zM H
 clear H
 go_enter Try.func69,Try.ntmps69
 go_upto_region 1 with (first|((with_reducible refine zBx 4 53 #[.slice A1_0 l1_0.length c1_0,.int .i64 a1_1,.int .i64 a1_2] ?_);intro gb727 hg w5 hbox hb;have BK727:=zM hbox;have GW727:=zM (zW hg (below_size zB0));have GE727:=zM (zW hg (below_size zB0));replace HB:=zM (below_step zB0 hb);clear hb hbox hg)|((with_reducible refine zBx 6 57 #[.int .i64 0,.int .i64 0,.int .i64 0,.int .i64 0,.int .i64 0] ?_);intro gb728 hg w6 hbox hb;have BK728:=zM hbox;have GW728:=zM (zW hg (below_size zB0));have GE728:=zM (zW hg (below_size zB0));replace HB:=zM (below_step zB0 hb);have NB727_728:=zM ((zn BK727.1 hg:gb727≠gb728));have NB728_727:=zM ((zm BK727.1 hg:gb728≠gb727));replace BK727:=zM (zb BK727.1 hb);clear hb hbox hg))
 (try simp only [Act.put,List.setIfInBounds_toArray,List.set_cons_zero,List.set_cons_succ])
 go_cut [23] (fun v23 wc=>∃(kq:Nat) (x23_3:Bool),v23= .bool x23_3∧Aside0 (spec_EventOf.j0 kq l0 a2 x23_3 l1_0 a1_1 a1_2=some (r1,r2,r3,r4,r5,r6))∧Aside0 (kq≤k)∧Aside0 (wc.heap[gb727]? =some (.cells #[(.slice A1_0 l1_0.length c1_0),.int .i64 a1_1,.int .i64 a1_2] 53 (0,0)))∧Aside0 (wc.heap[gb728]? =some (.cells #[.int .i64 0,.int .i64 0,.int .i64 0,.int .i64 0,.int .i64 0] 57 (0,0)))∧Aside0 (Below w.heap.size w wc))
 case first=>
  have H:=HC4.1
  clear HC4
  replace H:=zO H
  obtain ⟨t729,A7,H⟩:=H
  by_cases c8:t729=true
  rotate_left
  ·replace c8:=Bool.eq_false_iff.mpr c8
   subst c8
   rw [if_neg zF] at H
   have H':=zM H
   clear H
   go_wp2_with (first|((with_reducible refine zG Try.func96 12 #[.slice A0 l0.length c0,.int .i64 24] ?_);(with_reducible refine (spec_l1Words.calls k _ _ l0 24 false _ ?side1 ?side2 A7.1).mono ?_);(case side1=>exact zC (Kd.C_below HR0.1 HB.1));(case side2=>exact HC0.1);rintro e w' ⟨rfl,⟨nd,rfl⟩⟩;refine ⟨_,rfl,?_⟩))
   go_meet
   case rel=>exact ⟨_,(true),zJJ,H',⟨by first|omega|exact Nat.le_refl _⟩,⟨zK BK727.1⟩,⟨zK BK728.1⟩,⟨zB0⟩⟩
  subst c8
  rw [if_pos rfl] at H
  replace H:=zO H
  obtain ⟨t730,A9,H⟩:=H
  by_cases c10:t730=true
  rotate_left
  ·replace c10:=Bool.eq_false_iff.mpr c10
   subst c10
   rw [if_neg zF] at H
   have H':=zM H
   clear H
   go_wp2_with (first|((with_reducible refine zG Try.func96 12 #[.slice A0 l0.length c0,.int .i64 24] ?_);(with_reducible refine (spec_l1Words.calls k _ _ l0 24 true _ ?side1 ?side2 A7.1).mono ?_);(case side1=>exact zC (Kd.C_below HR0.1 HB.1));(case side2=>exact HC0.1);rintro e w' ⟨rfl,⟨nd,rfl⟩⟩;refine ⟨_,rfl,?_⟩;have hnb15:=NB727_728.1;have hnc15:=NB728_727.1;have hcz16:=zc_3 (w:=w6) BK727.1)|(go_at_call 94;(with_reducible refine (spec_HartOk.calls k _ _ l1_0 a1_1 a1_2 false _ ?side1 ?side2 A9.1).mono ?_);(case side1=>repeat (first|exact (Kd.C_below HR1_0.1 zB0)|(with_reducible refine Kd.C_alloc ?_ _)|(with_reducible refine Kd.C_drewN ?_ _)|(with_reducible refine Kd.C_drew ?_)));(case side2=>exact HC1_0.1);rintro e w17 ⟨rfl,hb⟩;replace BK727:=zM (zb BK727.1 hb);replace BK728:=zM (zb BK728.1 hb);replace HB:=zM (below_step zB0 hb);clear hb))
   go_meet
   case rel=>exact ⟨_,(true),zJJ,H',⟨by first|omega|exact Nat.le_refl _⟩,⟨zK BK727.1⟩,⟨zK BK728.1⟩,⟨zB0⟩⟩
  subst c10
  rw [if_pos rfl] at H
  have H':=zM H
  clear H
  go_wp2_with (first|((with_reducible refine zG Try.func96 12 #[.slice A0 l0.length c0,.int .i64 24] ?_);(with_reducible refine (spec_l1Words.calls k _ _ l0 24 true _ ?side1 ?side2 A7.1).mono ?_);(case side1=>exact zC (Kd.C_below HR0.1 HB.1));(case side2=>exact HC0.1);rintro e w' ⟨rfl,⟨nd,rfl⟩⟩;refine ⟨_,rfl,?_⟩;have hnb11:=NB727_728.1;have hnc11:=NB728_727.1;have hcz12:=zc_3 (w:=w6) BK727.1)|(go_at_call 94;(with_reducible refine (spec_HartOk.calls k _ _ l1_0 a1_1 a1_2 true _ ?side1 ?side2 A9.1).mono ?_);(case side1=>repeat (first|exact (Kd.C_below HR1_0.1 zB0)|(with_reducible refine Kd.C_alloc ?_ _)|(with_reducible refine Kd.C_drewN ?_ _)|(with_reducible refine Kd.C_drew ?_)));(case side2=>exact HC1_0.1);rintro e w13 ⟨rfl,hb⟩;replace BK727:=zM (zb BK727.1 hb);replace BK728:=zM (zb BK728.1 hb);replace HB:=zM (below_step zB0 hb);clear hb;have hcz14:=zc_3 (w:=w13) BK727.1))
  go_meet
  case rel=>exact ⟨_,((a1_2 != 0)),zJJ,H',⟨by first|omega|exact Nat.le_refl _⟩,⟨zK BK727.1⟩,⟨zK BK728.1⟩,⟨zB0⟩⟩
 case rest=>
  clear HC4
  obtain ⟨kq,x23_3,rfl,HA,HJ3,BK727,BK728,HB⟩:=hcut
  cases kq with
  |zero=>exact absurd HA.1 (by simp [spec_EventOf.j0])
  |succ kj3=>
   have H:=HA.1
   clear HA
   simp only [spec_EventOf.j0] at H
   by_cases c18:x23_3=true
   ·subst c18
    rw [if_pos rfl] at H
    simp only [Option.some.injEq,Prod.mk.injEq] at H
    obtain ⟨rfl,rfl,rfl,rfl,rfl,rfl⟩:=H
    have hnb19:=NB728_727.1
    have hnc19:=NB727_728.1
    have hcz20:=zc_5 (w:=wc) BK728.1
    go_wp2
    refine bodyPost_ret (results_ct rfl _ _ gb728 57 #[.int .i64 0,.int .i64 0,.int .i64 0,.int .i64 0,.int .i64 0] (0,0) _ rfl (by exact zp5 (zK BK728.1)) Try.underlying57 rfl (by kernel_rfl)) rfl ?_
    exact ⟨zE,zB0⟩
   replace c18:=Bool.eq_false_iff.mpr c18
   subst c18
   rw [if_neg zF] at H
   replace H:=zIt H
   obtain ⟨c21b0,H⟩:=H
   replace H:=zIt H
   obtain ⟨c22b0,H⟩:=H
   replace H:=zO H
   obtain ⟨⟨t732,t733,t734,t735,t736,t737⟩,A23,H⟩:=H
   try dsimp only at H
   replace H:=zO H
   obtain ⟨t739,A24,H⟩:=H
   by_cases c25:t739<0
   ·rw [if_pos c25] at H
    have c25b0:=decide_eq_true c25
    clear c25
    simp only [Option.some.injEq,Prod.mk.injEq] at H
    obtain ⟨rfl,rfl,rfl,rfl,rfl,rfl⟩:=H
    have hnb26:=NB727_728.1
    have hnc26:=NB728_727.1
    have hcz27:=zc_3 (w:=wc) BK727.1
    obtain ⟨p731,q731,ad731,e731,hx731_0⟩:=zRd (Kd.at_int HR0.1 a1_1)
    cases e731
    replace hx731_0:=zHx HB.1 hx731_0
    try go_wp2_with (first|((with_reducible refine zG Try.func106 31 #[.int .i64 (rd l0 a1_1)] ?_);(with_reducible refine (spec_Decode.calls (rd l0 a1_1) t732 t733 t734 t735 t736 t737 _ A23.1).mono ?_);rintro e w28 ⟨rfl,hb⟩;refine ⟨_,rfl,?_⟩;replace BK727:=zM (zb BK727.1 hb);replace BK728:=zM (zb BK728.1 hb);replace HB:=zM (below_step zB0 hb);clear hb)|((with_reducible refine zBx 8 109 #[.int .i64 0,.int .i64 0,.int .i64 0,.int .i64 0,.int .i64 0] ?_);intro gb738 hg w29 hbox hb;have BK738:=zM hbox;have GW738:=zM (zW hg (below_size zB0));have GE738:=zM (zW hg (below_size zB0));replace HB:=zM (below_step zB0 hb);have NB727_738:=zM ((zn BK727.1 hg:gb727≠gb738));have NB738_727:=zM ((zm BK727.1 hg:gb738≠gb727));replace BK727:=zM (zb BK727.1 hb);have NB728_738:=zM ((zn BK728.1 hg:gb728≠gb738));have NB738_728:=zM ((zm BK728.1 hg:gb738≠gb728));replace BK728:=zM (zb BK728.1 hb);clear hb hbox hg;have hnb30:=NB738_727.1;have hnc30:=NB727_738.1;have hnb31:=NB738_728.1;have hnc31:=NB728_738.1;have hcz32:=zc_5 (w:=w29) BK738.1))
    generalize hw_:(((((w29.setCell ⟨gb738,0,none⟩ (.int .i64 t732)).setCell ⟨gb738,1,none⟩ (.int .i64 t733)).setCell ⟨gb738,2,none⟩ (.int .i64 t734)).setCell ⟨gb738,3,none⟩ (.int .i64 t735)).setCell ⟨gb738,4,none⟩ (.int .i64 t736))=w33
    have n0_:Aside0 (w33.heap[gb727]? =some (.cells #[.slice A1_0 l1_0.length c1_0,.int .i64 a1_1,.int .i64 a1_2] 53 (0,0))):=⟨by rw [←hw_];exact zPq⟩
    have n1_:Aside0 (w33.heap[gb728]? =some (.cells #[.int .i64 0,.int .i64 0,.int .i64 0,.int .i64 0,.int .i64 0] 57 (0,0))):=⟨by rw [←hw_];exact zPq⟩
    have n2_:Aside0 (w33.heap[gb738]? =some (.cells #[.int .i64 t732,.int .i64 t733,.int .i64 t734,.int .i64 t735,.int .i64 t736] 109 (0,0))):=⟨by rw [←hw_];exact zp5 (zK BK738.1)⟩
    have n3_:Aside0 (Below w.heap.size w w33):=⟨by rw [←hw_];exact zB0⟩
    (try clear BK727)
    (try clear BK728)
    (try clear BK738)
    (try clear HB)
    clear hw_
    have BK727:=n0_
    have BK728:=n1_
    have BK738:=n2_
    have HB:=n3_
    clear n0_ n1_ n2_ n3_
    replace BK727:=zM (blk_drew BK727.1)
    replace BK728:=zM (blk_drew BK728.1)
    replace BK738:=zM (blk_drew BK738.1)
    replace HB:=zM (below_drew1 HB.1)
    refine start_ (n:=10) (S:=fun w'=>w'.cell? ⟨gb727,0,none⟩=some (.slice A1_0 l1_0.length c1_0)∧w'.cell? ⟨gb727,1,none⟩=some (.int .i64 a1_1)∧w'.cell? ⟨gb727,2,none⟩=some (.int .i64 a1_2)∧w'.cell? ⟨gb738,0,none⟩=some (.int .i64 t732)∧w'.cell? ⟨gb738,1,none⟩=some (.int .i64 t733)∧w'.cell? ⟨gb738,2,none⟩=some (.int .i64 t734)∧w'.cell? ⟨gb738,3,none⟩=some (.int .i64 t735)∧w'.cell? ⟨gb738,4,none⟩=some (.int .i64 t736)) (ds:=[]) zq19_0 (by kernel_rfl) rfl rfl ⟨(blk_cell BK727.1 0).trans rfl,(blk_cell BK727.1 1).trans rfl,(blk_cell BK727.1 2).trans rfl,(blk_cell BK738.1 0).trans rfl,(blk_cell BK738.1 1).trans rfl,(blk_cell BK738.1 2).trans rfl,(blk_cell BK738.1 3).trans rfl,(blk_cell BK738.1 4).trans rfl⟩ (fun hHeld=>?_);refine with_tabW spec_EventOf.tab4 spec_EventOf.bits4 (fun HT_ HW_=>?_)
    generalize w33.drew=w34 at BK727 BK728 BK738 HB hHeld ⊢
    refine zPu 0 ?_
    refine zPu 1 ?_
    refine zPu 4 ?_
    refine zTk8 2 hHeld ?_
    refine zTk8 3 hHeld ?_
    refine zTk8 5 hHeld ?_
    refine join_ (σ:=Nat) 1 zq19_7 (fun s_=>[(40,.int .i64 t739),(10,.pointer (some ⟨s_,0,none⟩)),(41,.agg #[.int .i64 a2,.int .i64 a1_1,.int .i64 t739,.int .i64 (-1),.int .i64 (-1)])]) (fun s_ w'=>(w'.cell? ⟨gb727,0,none⟩=some (.slice A1_0 l1_0.length c1_0)∧w'.cell? ⟨gb727,1,none⟩=some (.int .i64 a1_1)∧w'.cell? ⟨gb727,2,none⟩=some (.int .i64 a1_2)∧w'.cell? ⟨gb738,0,none⟩=some (.int .i64 t732)∧w'.cell? ⟨gb738,1,none⟩=some (.int .i64 t733)∧w'.cell? ⟨gb738,2,none⟩=some (.int .i64 t734)∧w'.cell? ⟨gb738,3,none⟩=some (.int .i64 t735)∧w'.cell? ⟨gb738,4,none⟩=some (.int .i64 t736))∧(w'.heap[gb727]? =some (.cells #[.slice A1_0 l1_0.length c1_0,.int .i64 a1_1,.int .i64 a1_2] 53 (0,0)))∧(w'.heap[gb728]? =some (.cells #[.int .i64 0,.int .i64 0,.int .i64 0,.int .i64 0,.int .i64 0] 57 (0,0)))∧(w'.heap[gb738]? =some (.cells #[.int .i64 t732,.int .i64 t733,.int .i64 t734,.int .i64 t735,.int .i64 t736] 109 (0,0)))∧(w'.heap[s_]? =some (.cells #[.int .i64 0,.int .i64 0,.int .i64 0,.int .i64 0,.int .i64 0] 57 (0,0)))∧(w.heap.size≤s_)∧(w.heap.size≤s_)∧(gb727≠s_)∧(s_≠gb727)∧(gb728≠s_)∧(s_≠gb728)∧(gb738≠s_)∧(s_≠gb738)∧(Below w.heap.size w w')) ?_ ?_
    rotate_left
    ·intro hCont
     refine two_ (i:=6) (j:=8) (Ni:=some 40) (Nj:=some 10) zq19_8 zq19_9 rfl rfl rfl rfl (two_of HT_.1 (by kernel_rfl)) (by decide) (by decide) (fun K hK=>?_) (fun K hK=>?_)
     ·refine zGs Try.func107 #[.agg #[.int .i64 t732,.int .i64 t733,.int .i64 t734,.int .i64 t735,.int .i64 t736],.slice A1_0 l1_0.length c1_0] ?_
      with_reducible refine (spec_Target.calls t732 t733 t734 t735 t736 _ _ l1_0 t739 _ ?side1 ?side2 A24.1).mono ?_
      (case side1=>exact zC (Kd.C_below HR1_0.1 HB.1))
      (case side2=>exact HC1_0.1)
      rintro e w35 ⟨rfl,hb⟩
      refine ⟨_,rfl,?_⟩
      replace BK727:=zM (zb BK727.1 hb)
      replace BK728:=zM (zb BK728.1 hb)
      replace BK738:=zM (zb BK738.1 hb)
      replace HB:=zM (below_step zB0 hb)
      refine hK.out _ _ zCs fun hHeld=>?_
      clear hK K
      refine zNo ?_
      refine zPu 7 ?_
      refine zOn 8 (some 10) fun K hK=>?_
      refine zBs 10 57 #[.int .i64 0,.int .i64 0,.int .i64 0,.int .i64 0,.int .i64 0] ?_
      intro gb740 hg w36 hbox hb
      replace BK740:=zM hbox
      replace GW740:=zM (zW hg (below_size zB0))
      replace GE740:=zM (zW hg (below_size zB0))
      replace HB:=zM (below_step zB0 hb)
      replace NB727_740:=zM ((zn BK727.1 hg:gb727≠gb740))
      replace NB740_727:=zM ((zm BK727.1 hg:gb740≠gb727))
      replace BK727:=zM (zb BK727.1 hb)
      replace NB728_740:=zM ((zn BK728.1 hg:gb728≠gb740))
      replace NB740_728:=zM ((zm BK728.1 hg:gb740≠gb728))
      replace BK728:=zM (zb BK728.1 hb)
      replace NB738_740:=zM ((zn BK738.1 hg:gb738≠gb740))
      replace NB740_738:=zM ((zm BK738.1 hg:gb740≠gb738))
      replace BK738:=zM (zb BK738.1 hb)
      refine hK.out _ _ zCs fun hHeld=>?_
      clear hK K
      refine zNo ?_
      exact norm_ zNr (hCont (gb740) _ ⟨hHeld,(zK BK727.1),(zK BK728.1),(zK BK738.1),(zK BK740.1),GW740.1,GE740.1,NB727_740.1,NB740_727.1,NB728_740.1,NB740_728.1,NB738_740.1,NB740_738.1,zB0⟩)
     ·refine zBs 10 57 #[.int .i64 0,.int .i64 0,.int .i64 0,.int .i64 0,.int .i64 0] ?_
      intro gb740 hg w35 hbox hb
      replace BK740:=zM hbox
      replace GW740:=zM (zW hg (below_size zB0))
      replace GE740:=zM (zW hg (below_size zB0))
      replace HB:=zM (below_step zB0 hb)
      replace NB727_740:=zM ((zn BK727.1 hg:gb727≠gb740))
      replace NB740_727:=zM ((zm BK727.1 hg:gb740≠gb727))
      replace BK727:=zM (zb BK727.1 hb)
      replace NB728_740:=zM ((zn BK728.1 hg:gb728≠gb740))
      replace NB740_728:=zM ((zm BK728.1 hg:gb740≠gb728))
      replace BK728:=zM (zb BK728.1 hb)
      replace NB738_740:=zM ((zn BK738.1 hg:gb738≠gb740))
      replace NB740_738:=zM ((zm BK738.1 hg:gb740≠gb738))
      replace BK738:=zM (zb BK738.1 hb)
      refine hK.out _ _ zCs fun hHeld=>?_
      clear hK K
      refine zNo ?_
      refine zOn 6 (some 40) fun K hK=>?_
      refine zGs Try.func107 #[.agg #[.int .i64 t732,.int .i64 t733,.int .i64 t734,.int .i64 t735,.int .i64 t736],.slice A1_0 l1_0.length c1_0] ?_
      with_reducible refine (spec_Target.calls t732 t733 t734 t735 t736 _ _ l1_0 t739 _ ?side1 ?side2 A24.1).mono ?_
      (case side1=>exact zC (Kd.C_below HR1_0.1 HB.1))
      (case side2=>exact HC1_0.1)
      rintro e w36 ⟨rfl,hb⟩
      refine ⟨_,rfl,?_⟩
      replace BK727:=zM (zb BK727.1 hb)
      replace BK728:=zM (zb BK728.1 hb)
      replace BK738:=zM (zb BK738.1 hb)
      replace BK740:=zM (zb BK740.1 hb)
      replace HB:=zM (below_step zB0 hb)
      refine hK.out _ _ zCs fun hHeld=>?_
      clear hK K
      refine zNo ?_
      refine zPu 7 ?_
      exact norm_ zNr (hCont (gb740) _ ⟨hHeld,(zK BK727.1),(zK BK728.1),(zK BK738.1),(zK BK740.1),GW740.1,GE740.1,NB727_740.1,NB740_727.1,NB728_740.1,NB740_728.1,NB738_740.1,NB740_738.1,zB0⟩)
    rintro gb740 w37 ⟨hS_,h0_,h1_,h2_,h3_,h4_,h5_,h6_,h7_,h8_,h9_,h10_,h11_,h12_⟩
    replace BK727:=zM h0_
    replace BK728:=zM h1_
    replace BK738:=zM h2_
    replace BK740:=zM h3_
    replace GW740:=zM h4_
    replace GE740:=zM h5_
    replace NB727_740:=zM h6_
    replace NB740_727:=zM h7_
    replace NB728_740:=zM h8_
    replace NB740_728:=zM h9_
    replace NB738_740:=zM h10_
    replace NB740_738:=zM h11_
    replace HB:=zM h12_
    have hHeld:=hS_
    refine zNp ?_
    refine zOn 9 none fun K hK=>?_
    obtain ⟨hs38,hfs38⟩:=zHs BK740.1 0
    have hns38_0:=NB727_740.1
    have hns38_1:=NB728_740.1
    have hns38_2:=NB738_740.1
    have hms38_0:=NB740_727.1
    have hms38_1:=NB740_728.1
    have hms38_2:=NB740_738.1
    obtain ⟨hs39,hfs39⟩:=zHs BK740.1 1
    have hns39_0:=NB727_740.1
    have hns39_1:=NB728_740.1
    have hns39_2:=NB738_740.1
    have hms39_0:=NB740_727.1
    have hms39_1:=NB740_728.1
    have hms39_2:=NB740_738.1
    obtain ⟨hs40,hfs40⟩:=zHs BK740.1 2
    have hns40_0:=NB727_740.1
    have hns40_1:=NB728_740.1
    have hns40_2:=NB738_740.1
    have hms40_0:=NB740_727.1
    have hms40_1:=NB740_728.1
    have hms40_2:=NB740_738.1
    obtain ⟨hs41,hfs41⟩:=zHs BK740.1 3
    have hns41_0:=NB727_740.1
    have hns41_1:=NB728_740.1
    have hns41_2:=NB738_740.1
    have hms41_0:=NB740_727.1
    have hms41_1:=NB740_728.1
    have hms41_2:=NB740_738.1
    obtain ⟨hs42,hfs42⟩:=zHs BK740.1 4
    have hns42_0:=NB727_740.1
    have hns42_1:=NB728_740.1
    have hns42_2:=NB738_740.1
    have hms42_0:=NB740_727.1
    have hms42_1:=NB740_728.1
    have hms42_2:=NB740_738.1
    refine skip_ (w1:=?_) (by rfl) rfl ?_ ?_
    rotate_left
    ·go_simp
     rfl
    refine hK.out _ _ zCs fun hHeld=>?_
    clear hK K
    refine done_ (done_of HT_.1 (by kernel_rfl)) ?_
    have hnb43:=NB740_727.1
    have hnc43:=NB727_740.1
    have hnb44:=NB740_728.1
    have hnc44:=NB728_740.1
    have hnb45:=NB740_738.1
    have hnc45:=NB738_740.1
    have hcz46:=zc_5 (w:=w37) BK740.1
    have hcz47:=zc_5 (w:=w37) BK728.1
    try go_wp2
    refine bodyPost_ret (results_ct rfl _ _ gb728 57 #[.int .i64 a2,.int .i64 a1_1,.int .i64 t739,.int .i64 (-1),.int .i64 (-1)] (0,0) _ rfl zPq Try.underlying57 rfl (by kernel_rfl)) rfl ?_
    exact ⟨zE,zB0⟩
   rw [if_neg c25] at H
   have c25b0:=decide_eq_false c25
   clear c25
   replace H:=zIt H
   obtain ⟨c48b0,H⟩:=H
   replace H:=zIt H
   obtain ⟨c49b0,H⟩:=H
   replace H:=zO H
   obtain ⟨⟨t742,t745,t746,t747⟩,A50,H⟩:=H
   try dsimp only at H
   by_cases c51:t732=5
   ·rw [if_pos c51] at H
    have c51b0:(t732 == 5)=true:=beq_iff_eq.mpr c51
    have c51b1:(t732 != 5)=false:=bne_eq_false_iff_eq.mpr c51
    clear c51
    simp only [Option.some.injEq,Prod.mk.injEq] at H
    obtain ⟨rfl,rfl,rfl,rfl,rfl,rfl⟩:=H
    have hnb52:=NB727_728.1
    have hnc52:=NB728_727.1
    have hcz53:=zc_3 (w:=wc) BK727.1
    obtain ⟨p731,q731,ad731,e731,hx731_0⟩:=zRd (Kd.at_int HR0.1 a1_1)
    cases e731
    replace hx731_0:=zHx HB.1 hx731_0
    try go_wp2_with (first|((with_reducible refine zG Try.func106 31 #[.int .i64 (rd l0 a1_1)] ?_);(with_reducible refine (spec_Decode.calls (rd l0 a1_1) t732 t733 t734 t735 t736 t737 _ A23.1).mono ?_);rintro e w54 ⟨rfl,hb⟩;refine ⟨_,rfl,?_⟩;replace BK727:=zM (zb BK727.1 hb);replace BK728:=zM (zb BK728.1 hb);replace HB:=zM (below_step zB0 hb);clear hb)|((with_reducible refine zBx 8 109 #[.int .i64 0,.int .i64 0,.int .i64 0,.int .i64 0,.int .i64 0] ?_);intro gb738 hg w55 hbox hb;have BK738:=zM hbox;have GW738:=zM (zW hg (below_size zB0));have GE738:=zM (zW hg (below_size zB0));replace HB:=zM (below_step zB0 hb);have NB727_738:=zM ((zn BK727.1 hg:gb727≠gb738));have NB738_727:=zM ((zm BK727.1 hg:gb738≠gb727));replace BK727:=zM (zb BK727.1 hb);have NB728_738:=zM ((zn BK728.1 hg:gb728≠gb738));have NB738_728:=zM ((zm BK728.1 hg:gb738≠gb728));replace BK728:=zM (zb BK728.1 hb);clear hb hbox hg;have hnb56:=NB738_727.1;have hnc56:=NB727_738.1;have hnb57:=NB738_728.1;have hnc57:=NB728_738.1;have hcz58:=zc_5 (w:=w55) BK738.1))
    generalize hw_:(((((w55.setCell ⟨gb738,0,none⟩ (.int .i64 t732)).setCell ⟨gb738,1,none⟩ (.int .i64 t733)).setCell ⟨gb738,2,none⟩ (.int .i64 t734)).setCell ⟨gb738,3,none⟩ (.int .i64 t735)).setCell ⟨gb738,4,none⟩ (.int .i64 t736))=w59
    have n0_:Aside0 (w59.heap[gb727]? =some (.cells #[.slice A1_0 l1_0.length c1_0,.int .i64 a1_1,.int .i64 a1_2] 53 (0,0))):=⟨by rw [←hw_];exact zPq⟩
    have n1_:Aside0 (w59.heap[gb728]? =some (.cells #[.int .i64 0,.int .i64 0,.int .i64 0,.int .i64 0,.int .i64 0] 57 (0,0))):=⟨by rw [←hw_];exact zPq⟩
    have n2_:Aside0 (w59.heap[gb738]? =some (.cells #[.int .i64 t732,.int .i64 t733,.int .i64 t734,.int .i64 t735,.int .i64 t736] 109 (0,0))):=⟨by rw [←hw_];exact zp5 (zK BK738.1)⟩
    have n3_:Aside0 (Below w.heap.size w w59):=⟨by rw [←hw_];exact zB0⟩
    (try clear BK727)
    (try clear BK728)
    (try clear BK738)
    (try clear HB)
    clear hw_
    have BK727:=n0_
    have BK728:=n1_
    have BK738:=n2_
    have HB:=n3_
    clear n0_ n1_ n2_ n3_
    replace BK727:=zM (blk_drew BK727.1)
    replace BK728:=zM (blk_drew BK728.1)
    replace BK738:=zM (blk_drew BK738.1)
    replace HB:=zM (below_drew1 HB.1)
    refine start_ (n:=10) (S:=fun w'=>w'.cell? ⟨gb727,0,none⟩=some (.slice A1_0 l1_0.length c1_0)∧w'.cell? ⟨gb727,1,none⟩=some (.int .i64 a1_1)∧w'.cell? ⟨gb727,2,none⟩=some (.int .i64 a1_2)∧w'.cell? ⟨gb738,0,none⟩=some (.int .i64 t732)∧w'.cell? ⟨gb738,1,none⟩=some (.int .i64 t733)∧w'.cell? ⟨gb738,2,none⟩=some (.int .i64 t734)∧w'.cell? ⟨gb738,3,none⟩=some (.int .i64 t735)∧w'.cell? ⟨gb738,4,none⟩=some (.int .i64 t736)) (ds:=[]) zq19_0 (by kernel_rfl) rfl rfl ⟨(blk_cell BK727.1 0).trans rfl,(blk_cell BK727.1 1).trans rfl,(blk_cell BK727.1 2).trans rfl,(blk_cell BK738.1 0).trans rfl,(blk_cell BK738.1 1).trans rfl,(blk_cell BK738.1 2).trans rfl,(blk_cell BK738.1 3).trans rfl,(blk_cell BK738.1 4).trans rfl⟩ (fun hHeld=>?_);refine with_tabW spec_EventOf.tab4 spec_EventOf.bits4 (fun HT_ HW_=>?_)
    generalize w59.drew=w60 at BK727 BK728 BK738 HB hHeld ⊢
    refine zPu 0 ?_
    refine zPu 1 ?_
    refine zPu 4 ?_
    refine zTk8 2 hHeld ?_
    refine zTk8 3 hHeld ?_
    refine zTk8 5 hHeld ?_
    refine join_ (σ:=Nat) 1 zq19_7 (fun s_=>[(40,.int .i64 t739),(10,.pointer (some ⟨s_,0,none⟩)),(41,.agg #[.int .i64 a2,.int .i64 a1_1,.int .i64 t739,.int .i64 (-1),.int .i64 (-1)])]) (fun s_ w'=>(w'.cell? ⟨gb727,0,none⟩=some (.slice A1_0 l1_0.length c1_0)∧w'.cell? ⟨gb727,1,none⟩=some (.int .i64 a1_1)∧w'.cell? ⟨gb727,2,none⟩=some (.int .i64 a1_2)∧w'.cell? ⟨gb738,0,none⟩=some (.int .i64 t732)∧w'.cell? ⟨gb738,1,none⟩=some (.int .i64 t733)∧w'.cell? ⟨gb738,2,none⟩=some (.int .i64 t734)∧w'.cell? ⟨gb738,3,none⟩=some (.int .i64 t735)∧w'.cell? ⟨gb738,4,none⟩=some (.int .i64 t736))∧(w'.heap[gb727]? =some (.cells #[.slice A1_0 l1_0.length c1_0,.int .i64 a1_1,.int .i64 a1_2] 53 (0,0)))∧(w'.heap[gb728]? =some (.cells #[.int .i64 0,.int .i64 0,.int .i64 0,.int .i64 0,.int .i64 0] 57 (0,0)))∧(w'.heap[gb738]? =some (.cells #[.int .i64 t732,.int .i64 t733,.int .i64 t734,.int .i64 t735,.int .i64 t736] 109 (0,0)))∧(w'.heap[s_]? =some (.cells #[.int .i64 0,.int .i64 0,.int .i64 0,.int .i64 0,.int .i64 0] 57 (0,0)))∧(w.heap.size≤s_)∧(w.heap.size≤s_)∧(gb727≠s_)∧(s_≠gb727)∧(gb728≠s_)∧(s_≠gb728)∧(gb738≠s_)∧(s_≠gb738)∧(Below w.heap.size w w')) ?_ ?_
    rotate_left
    ·intro hCont
     refine two_ (i:=6) (j:=8) (Ni:=some 40) (Nj:=some 10) zq19_8 zq19_9 rfl rfl rfl rfl (two_of HT_.1 (by kernel_rfl)) (by decide) (by decide) (fun K hK=>?_) (fun K hK=>?_)
     ·refine zGs Try.func107 #[.agg #[.int .i64 t732,.int .i64 t733,.int .i64 t734,.int .i64 t735,.int .i64 t736],.slice A1_0 l1_0.length c1_0] ?_
      with_reducible refine (spec_Target.calls t732 t733 t734 t735 t736 _ _ l1_0 t739 _ ?side1 ?side2 A24.1).mono ?_
      (case side1=>exact zC (Kd.C_below HR1_0.1 HB.1))
      (case side2=>exact HC1_0.1)
      rintro e w61 ⟨rfl,hb⟩
      refine ⟨_,rfl,?_⟩
      replace BK727:=zM (zb BK727.1 hb)
      replace BK728:=zM (zb BK728.1 hb)
      replace BK738:=zM (zb BK738.1 hb)
      replace HB:=zM (below_step zB0 hb)
      refine hK.out _ _ zCs fun hHeld=>?_
      clear hK K
      refine zNo ?_
      refine zPu 7 ?_
      refine zOn 8 (some 10) fun K hK=>?_
      refine zBs 10 57 #[.int .i64 0,.int .i64 0,.int .i64 0,.int .i64 0,.int .i64 0] ?_
      intro gb740 hg w62 hbox hb
      replace BK740:=zM hbox
      replace GW740:=zM (zW hg (below_size zB0))
      replace GE740:=zM (zW hg (below_size zB0))
      replace HB:=zM (below_step zB0 hb)
      replace NB727_740:=zM ((zn BK727.1 hg:gb727≠gb740))
      replace NB740_727:=zM ((zm BK727.1 hg:gb740≠gb727))
      replace BK727:=zM (zb BK727.1 hb)
      replace NB728_740:=zM ((zn BK728.1 hg:gb728≠gb740))
      replace NB740_728:=zM ((zm BK728.1 hg:gb740≠gb728))
      replace BK728:=zM (zb BK728.1 hb)
      replace NB738_740:=zM ((zn BK738.1 hg:gb738≠gb740))
      replace NB740_738:=zM ((zm BK738.1 hg:gb740≠gb738))
      replace BK738:=zM (zb BK738.1 hb)
      refine hK.out _ _ zCs fun hHeld=>?_
      clear hK K
      refine zNo ?_
      exact norm_ zNr (hCont (gb740) _ ⟨hHeld,(zK BK727.1),(zK BK728.1),(zK BK738.1),(zK BK740.1),GW740.1,GE740.1,NB727_740.1,NB740_727.1,NB728_740.1,NB740_728.1,NB738_740.1,NB740_738.1,zB0⟩)
     ·refine zBs 10 57 #[.int .i64 0,.int .i64 0,.int .i64 0,.int .i64 0,.int .i64 0] ?_
      intro gb740 hg w61 hbox hb
      replace BK740:=zM hbox
      replace GW740:=zM (zW hg (below_size zB0))
      replace GE740:=zM (zW hg (below_size zB0))
      replace HB:=zM (below_step zB0 hb)
      replace NB727_740:=zM ((zn BK727.1 hg:gb727≠gb740))
      replace NB740_727:=zM ((zm BK727.1 hg:gb740≠gb727))
      replace BK727:=zM (zb BK727.1 hb)
      replace NB728_740:=zM ((zn BK728.1 hg:gb728≠gb740))
      replace NB740_728:=zM ((zm BK728.1 hg:gb740≠gb728))
      replace BK728:=zM (zb BK728.1 hb)
      replace NB738_740:=zM ((zn BK738.1 hg:gb738≠gb740))
      replace NB740_738:=zM ((zm BK738.1 hg:gb740≠gb738))
      replace BK738:=zM (zb BK738.1 hb)
      refine hK.out _ _ zCs fun hHeld=>?_
      clear hK K
      refine zNo ?_
      refine zOn 6 (some 40) fun K hK=>?_
      refine zGs Try.func107 #[.agg #[.int .i64 t732,.int .i64 t733,.int .i64 t734,.int .i64 t735,.int .i64 t736],.slice A1_0 l1_0.length c1_0] ?_
      with_reducible refine (spec_Target.calls t732 t733 t734 t735 t736 _ _ l1_0 t739 _ ?side1 ?side2 A24.1).mono ?_
      (case side1=>exact zC (Kd.C_below HR1_0.1 HB.1))
      (case side2=>exact HC1_0.1)
      rintro e w62 ⟨rfl,hb⟩
      refine ⟨_,rfl,?_⟩
      replace BK727:=zM (zb BK727.1 hb)
      replace BK728:=zM (zb BK728.1 hb)
      replace BK738:=zM (zb BK738.1 hb)
      replace BK740:=zM (zb BK740.1 hb)
      replace HB:=zM (below_step zB0 hb)
      refine hK.out _ _ zCs fun hHeld=>?_
      clear hK K
      refine zNo ?_
      refine zPu 7 ?_
      exact norm_ zNr (hCont (gb740) _ ⟨hHeld,(zK BK727.1),(zK BK728.1),(zK BK738.1),(zK BK740.1),GW740.1,GE740.1,NB727_740.1,NB740_727.1,NB728_740.1,NB740_728.1,NB738_740.1,NB740_738.1,zB0⟩)
    rintro gb740 w63 ⟨hS_,h0_,h1_,h2_,h3_,h4_,h5_,h6_,h7_,h8_,h9_,h10_,h11_,h12_⟩
    replace BK727:=zM h0_
    replace BK728:=zM h1_
    replace BK738:=zM h2_
    replace BK740:=zM h3_
    replace GW740:=zM h4_
    replace GE740:=zM h5_
    replace NB727_740:=zM h6_
    replace NB740_727:=zM h7_
    replace NB728_740:=zM h8_
    replace NB740_728:=zM h9_
    replace NB738_740:=zM h10_
    replace NB740_738:=zM h11_
    replace HB:=zM h12_
    have hHeld:=hS_
    refine zNp ?_
    refine zOn 9 none fun K hK=>?_
    obtain ⟨hs64,hfs64⟩:=zHs BK740.1 0
    have hns64_0:=NB727_740.1
    have hns64_1:=NB728_740.1
    have hns64_2:=NB738_740.1
    have hms64_0:=NB740_727.1
    have hms64_1:=NB740_728.1
    have hms64_2:=NB740_738.1
    obtain ⟨hs65,hfs65⟩:=zHs BK740.1 1
    have hns65_0:=NB727_740.1
    have hns65_1:=NB728_740.1
    have hns65_2:=NB738_740.1
    have hms65_0:=NB740_727.1
    have hms65_1:=NB740_728.1
    have hms65_2:=NB740_738.1
    obtain ⟨hs66,hfs66⟩:=zHs BK740.1 2
    have hns66_0:=NB727_740.1
    have hns66_1:=NB728_740.1
    have hns66_2:=NB738_740.1
    have hms66_0:=NB740_727.1
    have hms66_1:=NB740_728.1
    have hms66_2:=NB740_738.1
    obtain ⟨hs67,hfs67⟩:=zHs BK740.1 3
    have hns67_0:=NB727_740.1
    have hns67_1:=NB728_740.1
    have hns67_2:=NB738_740.1
    have hms67_0:=NB740_727.1
    have hms67_1:=NB740_728.1
    have hms67_2:=NB740_738.1
    obtain ⟨hs68,hfs68⟩:=zHs BK740.1 4
    have hns68_0:=NB727_740.1
    have hns68_1:=NB728_740.1
    have hns68_2:=NB738_740.1
    have hms68_0:=NB740_727.1
    have hms68_1:=NB740_728.1
    have hms68_2:=NB740_738.1
    refine skip_ (w1:=?_) (by rfl) rfl ?_ ?_
    rotate_left
    ·go_simp
     rfl
    refine hK.out _ _ zCs fun hHeld=>?_
    clear hK K
    refine done_ (done_of HT_.1 (by kernel_rfl)) ?_
    have hnb69:=NB740_727.1
    have hnc69:=NB727_740.1
    have hnb70:=NB740_728.1
    have hnc70:=NB728_740.1
    have hnb71:=NB740_738.1
    have hnc71:=NB738_740.1
    have hcz72:=zc_5 (w:=w63) BK740.1
    try go_wp2
    generalize hw_:(((((w63.setCell ⟨gb740,0,none⟩ (.int .i64 a2)).setCell ⟨gb740,1,none⟩ (.int .i64 a1_1)).setCell ⟨gb740,2,none⟩ (.int .i64 t739)).setCell ⟨gb740,3,none⟩ (.int .i64 (-1))).setCell ⟨gb740,4,none⟩ (.int .i64 (-1)))=w73
    have n0_:Aside0 (w73.heap[gb727]? =some (.cells #[.slice A1_0 l1_0.length c1_0,.int .i64 a1_1,.int .i64 a1_2] 53 (0,0))):=⟨by rw [←hw_];exact zPq⟩
    have n1_:Aside0 (w73.heap[gb728]? =some (.cells #[.int .i64 0,.int .i64 0,.int .i64 0,.int .i64 0,.int .i64 0] 57 (0,0))):=⟨by rw [←hw_];exact zPq⟩
    have n2_:Aside0 (w73.heap[gb738]? =some (.cells #[.int .i64 t732,.int .i64 t733,.int .i64 t734,.int .i64 t735,.int .i64 t736] 109 (0,0))):=⟨by rw [←hw_];exact zPq⟩
    have n3_:Aside0 (w73.heap[gb740]? =some (.cells #[.int .i64 a2,.int .i64 a1_1,.int .i64 t739,.int .i64 (-1),.int .i64 (-1)] 57 (0,0))):=⟨by rw [←hw_];exact zp5 (zK BK740.1)⟩
    have n4_:Aside0 (Below w.heap.size w w73):=⟨by rw [←hw_];exact zB0⟩
    (try clear BK727)
    (try clear BK728)
    (try clear BK738)
    (try clear BK740)
    (try clear HB)
    clear hw_
    have BK727:=n0_
    have BK728:=n1_
    have BK738:=n2_
    have BK740:=n3_
    have HB:=n4_
    clear n0_ n1_ n2_ n3_ n4_
    replace BK727:=zM (blk_drew BK727.1)
    replace BK728:=zM (blk_drew BK728.1)
    replace BK738:=zM (blk_drew BK738.1)
    replace BK740:=zM (blk_drew BK740.1)
    replace HB:=zM (below_drew1 HB.1)
    obtain ⟨p741,q741,ad741,e741,hx741_0⟩:=zRd (Kd.at_int HR0.1 t739)
    have hw741_0:=hx741_0
    obtain rfl:ad731=ad741:=(by injection e741)
    replace hx741_0:=zHx HB.1 hx741_0
    refine start_ (n:=13) (S:=fun w'=>w'.cell? ⟨gb727,0,none⟩=some (.slice A1_0 l1_0.length c1_0)∧w'.cell? ⟨gb727,1,none⟩=some (.int .i64 a1_1)∧w'.cell? ⟨gb727,2,none⟩=some (.int .i64 a1_2)∧w'.cell? ⟨gb738,0,none⟩=some (.int .i64 t732)∧w'.cell? ⟨gb738,1,none⟩=some (.int .i64 t733)∧w'.cell? ⟨gb738,2,none⟩=some (.int .i64 t734)∧w'.cell? ⟨gb738,3,none⟩=some (.int .i64 t735)∧w'.cell? ⟨gb738,4,none⟩=some (.int .i64 t736)∧w'.cell? ⟨gb740,0,none⟩=some (.int .i64 a2)∧w'.cell? ⟨gb740,1,none⟩=some (.int .i64 a1_1)∧w'.cell? ⟨gb740,2,none⟩=some (.int .i64 t739)∧w'.cell? ⟨gb740,3,none⟩=some (.int .i64 (-1))∧w'.cell? ⟨gb740,4,none⟩=some (.int .i64 (-1))∧w'.cell? (ad731.add (t739).toNat)=some (.int .i64 (rd l0 t739))) (ds:=[12]) zq19_13 (by kernel_rfl) rfl rfl ⟨(blk_cell BK727.1 0).trans rfl,(blk_cell BK727.1 1).trans rfl,(blk_cell BK727.1 2).trans rfl,(blk_cell BK738.1 0).trans rfl,(blk_cell BK738.1 1).trans rfl,(blk_cell BK738.1 2).trans rfl,(blk_cell BK738.1 3).trans rfl,(blk_cell BK738.1 4).trans rfl,(blk_cell BK740.1 0).trans rfl,(blk_cell BK740.1 1).trans rfl,(blk_cell BK740.1 2).trans rfl,(blk_cell BK740.1 3).trans rfl,(blk_cell BK740.1 4).trans rfl,((HB.1.cell (World.block_lt_of_cell? w _ hw741_0)).trans hw741_0)⟩ (fun hHeld=>?_);refine with_tabW spec_EventOf.tab7 spec_EventOf.bits7 (fun HT_ HW_=>?_)
    generalize w73.drew=w74 at BK727 BK728 BK738 BK740 HB hx741_0 hHeld ⊢
    refine zPu 2 ?_
    refine zPu 3 ?_
    refine zTk14 0 hHeld ?_
    refine zTk14 1 hHeld ?_
    refine zTk14 4 hHeld ?_
    refine zPu 5 ?_
    refine zTk14 6 hHeld ?_
    refine zOn 7 (some 54) fun K hK=>?_
    refine zGs Try.func108 #[.agg #[.slice A1_0 l1_0.length c1_0,.int .i64 a1_1,.int .i64 a1_2],.agg #[.int .i64 t732,.int .i64 t733,.int .i64 t734,.int .i64 t735,.int .i64 t736],.int .i64 (rd l0 t739)] ?_
    with_reducible refine (spec_Work.calls kj3 _ _ l1_0 a1_1 a1_2 t732 t733 t734 t735 t736 (rd l0 t739) t742 t745 t746 t747 _ ?side1 ?side2 A50.1).mono ?_
    (case side1=>exact zC (Kd.C_below HR1_0.1 HB.1))
    (case side2=>exact HC1_0.1)
    rintro e w75 ⟨v743,rfl,ho0,hb⟩
    refine ⟨_,rfl,?_⟩
    have HO744:=zM (Kd.R_lower ho0 (below_size zB0))
    replace BK727:=zM (zb BK727.1 hb)
    replace BK728:=zM (zb BK728.1 hb)
    replace BK738:=zM (zb BK738.1 hb)
    replace BK740:=zM (zb BK740.1 hb)
    replace HB:=zM (below_step zB0 hb)
    (try clear ho0)
    refine hK.out _ _ ⟨(blk_cell BK727.1 0).trans rfl,(blk_cell BK727.1 1).trans rfl,(blk_cell BK727.1 2).trans rfl,(blk_cell BK738.1 0).trans rfl,(blk_cell BK738.1 1).trans rfl,(blk_cell BK738.1 2).trans rfl,(blk_cell BK738.1 3).trans rfl,(blk_cell BK738.1 4).trans rfl,(blk_cell BK740.1 0).trans rfl,(blk_cell BK740.1 1).trans rfl,(blk_cell BK740.1 2).trans rfl,(blk_cell BK740.1 3).trans rfl,(blk_cell BK740.1 4).trans rfl,((HB.1.cell (World.block_lt_of_cell? w _ hw741_0)).trans hw741_0)⟩ (fun hHeld=>?_)
    clear hK K
    refine zNo ?_
    refine zPu 8 ?_
    refine zPu 9 ?_
    refine zPu 10 ?_
    refine zPu 11 ?_
    refine last_ (i:=12) (N:=none) zq19_26 rfl rfl (one_of HT_.1 (by kernel_rfl)) (by decide) (fun K hK=>?_)
    obtain ⟨hs76,hfs76⟩:=zHs BK740.1 4
    have hns76_0:=NB727_740.1
    have hns76_1:=NB728_740.1
    have hns76_2:=NB738_740.1
    have hms76_0:=NB740_727.1
    have hms76_1:=NB740_728.1
    have hms76_2:=NB740_738.1
    refine skip_ (w1:=?_) (by rfl) rfl ?_ ?_
    rotate_left
    ·go_simp
     rfl
    refine hK.out _ _ ?_
    clear hK K
    refine done_ (done_of HT_.1 (by kernel_rfl)) ?_
    have hcz77:=zc_5 (w:=w75) BK738.1
    have hcz78:=zc_5 (w:=w75) BK740.1
    have hcz79:=zc_5 (w:=w75) BK728.1
    try go_wp2
    refine bodyPost_ret (results_ct rfl _ _ gb728 57 #[.int .i64 a2,.int .i64 a1_1,.int .i64 t739,.int .i64 (-1),.int .i64 t747] (0,0) _ rfl zPq Try.underlying57 rfl (by kernel_rfl)) rfl ?_
    exact ⟨zE,zB0⟩
   rw [if_neg c51] at H
   have c51b0:(t732 == 5)=false:=beq_eq_false_iff_ne.mpr c51
   have c51b1:(t732 != 5)=true:=bne_iff_ne.mpr c51
   simp only [Option.some.injEq,Prod.mk.injEq] at H
   obtain ⟨rfl,rfl,rfl,rfl,rfl,rfl⟩:=H
   have hnb80:=NB727_728.1
   have hnc80:=NB728_727.1
   have hcz81:=zc_3 (w:=wc) BK727.1
   obtain ⟨p731,q731,ad731,e731,hx731_0⟩:=zRd (Kd.at_int HR0.1 a1_1)
   cases e731
   replace hx731_0:=zHx HB.1 hx731_0
   try go_wp2_with (first|((with_reducible refine zG Try.func106 31 #[.int .i64 (rd l0 a1_1)] ?_);(with_reducible refine (spec_Decode.calls (rd l0 a1_1) t732 t733 t734 t735 t736 t737 _ A23.1).mono ?_);rintro e w82 ⟨rfl,hb⟩;refine ⟨_,rfl,?_⟩;replace BK727:=zM (zb BK727.1 hb);replace BK728:=zM (zb BK728.1 hb);replace HB:=zM (below_step zB0 hb);clear hb)|((with_reducible refine zBx 8 109 #[.int .i64 0,.int .i64 0,.int .i64 0,.int .i64 0,.int .i64 0] ?_);intro gb738 hg w83 hbox hb;have BK738:=zM hbox;have GW738:=zM (zW hg (below_size zB0));have GE738:=zM (zW hg (below_size zB0));replace HB:=zM (below_step zB0 hb);have NB727_738:=zM ((zn BK727.1 hg:gb727≠gb738));have NB738_727:=zM ((zm BK727.1 hg:gb738≠gb727));replace BK727:=zM (zb BK727.1 hb);have NB728_738:=zM ((zn BK728.1 hg:gb728≠gb738));have NB738_728:=zM ((zm BK728.1 hg:gb738≠gb728));replace BK728:=zM (zb BK728.1 hb);clear hb hbox hg;have hnb84:=NB738_727.1;have hnc84:=NB727_738.1;have hnb85:=NB738_728.1;have hnc85:=NB728_738.1;have hcz86:=zc_5 (w:=w83) BK738.1))
   generalize hw_:(((((w83.setCell ⟨gb738,0,none⟩ (.int .i64 t732)).setCell ⟨gb738,1,none⟩ (.int .i64 t733)).setCell ⟨gb738,2,none⟩ (.int .i64 t734)).setCell ⟨gb738,3,none⟩ (.int .i64 t735)).setCell ⟨gb738,4,none⟩ (.int .i64 t736))=w87
   have n0_:Aside0 (w87.heap[gb727]? =some (.cells #[.slice A1_0 l1_0.length c1_0,.int .i64 a1_1,.int .i64 a1_2] 53 (0,0))):=⟨by rw [←hw_];exact zPq⟩
   have n1_:Aside0 (w87.heap[gb728]? =some (.cells #[.int .i64 0,.int .i64 0,.int .i64 0,.int .i64 0,.int .i64 0] 57 (0,0))):=⟨by rw [←hw_];exact zPq⟩
   have n2_:Aside0 (w87.heap[gb738]? =some (.cells #[.int .i64 t732,.int .i64 t733,.int .i64 t734,.int .i64 t735,.int .i64 t736] 109 (0,0))):=⟨by rw [←hw_];exact zp5 (zK BK738.1)⟩
   have n3_:Aside0 (Below w.heap.size w w87):=⟨by rw [←hw_];exact zB0⟩
   (try clear BK727)
   (try clear BK728)
   (try clear BK738)
   (try clear HB)
   clear hw_
   have BK727:=n0_
   have BK728:=n1_
   have BK738:=n2_
   have HB:=n3_
   clear n0_ n1_ n2_ n3_
   replace BK727:=zM (blk_drew BK727.1)
   replace BK728:=zM (blk_drew BK728.1)
   replace BK738:=zM (blk_drew BK738.1)
   replace HB:=zM (below_drew1 HB.1)
   refine start_ (n:=10) (S:=fun w'=>w'.cell? ⟨gb727,0,none⟩=some (.slice A1_0 l1_0.length c1_0)∧w'.cell? ⟨gb727,1,none⟩=some (.int .i64 a1_1)∧w'.cell? ⟨gb727,2,none⟩=some (.int .i64 a1_2)∧w'.cell? ⟨gb738,0,none⟩=some (.int .i64 t732)∧w'.cell? ⟨gb738,1,none⟩=some (.int .i64 t733)∧w'.cell? ⟨gb738,2,none⟩=some (.int .i64 t734)∧w'.cell? ⟨gb738,3,none⟩=some (.int .i64 t735)∧w'.cell? ⟨gb738,4,none⟩=some (.int .i64 t736)) (ds:=[]) zq19_0 (by kernel_rfl) rfl rfl ⟨(blk_cell BK727.1 0).trans rfl,(blk_cell BK727.1 1).trans rfl,(blk_cell BK727.1 2).trans rfl,(blk_cell BK738.1 0).trans rfl,(blk_cell BK738.1 1).trans rfl,(blk_cell BK738.1 2).trans rfl,(blk_cell BK738.1 3).trans rfl,(blk_cell BK738.1 4).trans rfl⟩ (fun hHeld=>?_);refine with_tabW spec_EventOf.tab4 spec_EventOf.bits4 (fun HT_ HW_=>?_)
   generalize w87.drew=w88 at BK727 BK728 BK738 HB hHeld ⊢
   refine zPu 0 ?_
   refine zPu 1 ?_
   refine zPu 4 ?_
   refine zTk8 2 hHeld ?_
   refine zTk8 3 hHeld ?_
   refine zTk8 5 hHeld ?_
   refine join_ (σ:=Nat) 1 zq19_7 (fun s_=>[(40,.int .i64 t739),(10,.pointer (some ⟨s_,0,none⟩)),(41,.agg #[.int .i64 a2,.int .i64 a1_1,.int .i64 t739,.int .i64 (-1),.int .i64 (-1)])]) (fun s_ w'=>(w'.cell? ⟨gb727,0,none⟩=some (.slice A1_0 l1_0.length c1_0)∧w'.cell? ⟨gb727,1,none⟩=some (.int .i64 a1_1)∧w'.cell? ⟨gb727,2,none⟩=some (.int .i64 a1_2)∧w'.cell? ⟨gb738,0,none⟩=some (.int .i64 t732)∧w'.cell? ⟨gb738,1,none⟩=some (.int .i64 t733)∧w'.cell? ⟨gb738,2,none⟩=some (.int .i64 t734)∧w'.cell? ⟨gb738,3,none⟩=some (.int .i64 t735)∧w'.cell? ⟨gb738,4,none⟩=some (.int .i64 t736))∧(w'.heap[gb727]? =some (.cells #[.slice A1_0 l1_0.length c1_0,.int .i64 a1_1,.int .i64 a1_2] 53 (0,0)))∧(w'.heap[gb728]? =some (.cells #[.int .i64 0,.int .i64 0,.int .i64 0,.int .i64 0,.int .i64 0] 57 (0,0)))∧(w'.heap[gb738]? =some (.cells #[.int .i64 t732,.int .i64 t733,.int .i64 t734,.int .i64 t735,.int .i64 t736] 109 (0,0)))∧(w'.heap[s_]? =some (.cells #[.int .i64 0,.int .i64 0,.int .i64 0,.int .i64 0,.int .i64 0] 57 (0,0)))∧(w.heap.size≤s_)∧(w.heap.size≤s_)∧(gb727≠s_)∧(s_≠gb727)∧(gb728≠s_)∧(s_≠gb728)∧(gb738≠s_)∧(s_≠gb738)∧(Below w.heap.size w w')) ?_ ?_
   rotate_left
   ·intro hCont
    refine two_ (i:=6) (j:=8) (Ni:=some 40) (Nj:=some 10) zq19_8 zq19_9 rfl rfl rfl rfl (two_of HT_.1 (by kernel_rfl)) (by decide) (by decide) (fun K hK=>?_) (fun K hK=>?_)
    ·refine zGs Try.func107 #[.agg #[.int .i64 t732,.int .i64 t733,.int .i64 t734,.int .i64 t735,.int .i64 t736],.slice A1_0 l1_0.length c1_0] ?_
     with_reducible refine (spec_Target.calls t732 t733 t734 t735 t736 _ _ l1_0 t739 _ ?side1 ?side2 A24.1).mono ?_
     (case side1=>exact zC (Kd.C_below HR1_0.1 HB.1))
     (case side2=>exact HC1_0.1)
     rintro e w89 ⟨rfl,hb⟩
     refine ⟨_,rfl,?_⟩
     replace BK727:=zM (zb BK727.1 hb)
     replace BK728:=zM (zb BK728.1 hb)
     replace BK738:=zM (zb BK738.1 hb)
     replace HB:=zM (below_step zB0 hb)
     refine hK.out _ _ zCs fun hHeld=>?_
     clear hK K
     refine zNo ?_
     refine zPu 7 ?_
     refine zOn 8 (some 10) fun K hK=>?_
     refine zBs 10 57 #[.int .i64 0,.int .i64 0,.int .i64 0,.int .i64 0,.int .i64 0] ?_
     intro gb740 hg w90 hbox hb
     replace BK740:=zM hbox
     replace GW740:=zM (zW hg (below_size zB0))
     replace GE740:=zM (zW hg (below_size zB0))
     replace HB:=zM (below_step zB0 hb)
     replace NB727_740:=zM ((zn BK727.1 hg:gb727≠gb740))
     replace NB740_727:=zM ((zm BK727.1 hg:gb740≠gb727))
     replace BK727:=zM (zb BK727.1 hb)
     replace NB728_740:=zM ((zn BK728.1 hg:gb728≠gb740))
     replace NB740_728:=zM ((zm BK728.1 hg:gb740≠gb728))
     replace BK728:=zM (zb BK728.1 hb)
     replace NB738_740:=zM ((zn BK738.1 hg:gb738≠gb740))
     replace NB740_738:=zM ((zm BK738.1 hg:gb740≠gb738))
     replace BK738:=zM (zb BK738.1 hb)
     refine hK.out _ _ zCs fun hHeld=>?_
     clear hK K
     refine zNo ?_
     exact norm_ zNr (hCont (gb740) _ ⟨hHeld,(zK BK727.1),(zK BK728.1),(zK BK738.1),(zK BK740.1),GW740.1,GE740.1,NB727_740.1,NB740_727.1,NB728_740.1,NB740_728.1,NB738_740.1,NB740_738.1,zB0⟩)
    ·refine zBs 10 57 #[.int .i64 0,.int .i64 0,.int .i64 0,.int .i64 0,.int .i64 0] ?_
     intro gb740 hg w89 hbox hb
     replace BK740:=zM hbox
     replace GW740:=zM (zW hg (below_size zB0))
     replace GE740:=zM (zW hg (below_size zB0))
     replace HB:=zM (below_step zB0 hb)
     replace NB727_740:=zM ((zn BK727.1 hg:gb727≠gb740))
     replace NB740_727:=zM ((zm BK727.1 hg:gb740≠gb727))
     replace BK727:=zM (zb BK727.1 hb)
     replace NB728_740:=zM ((zn BK728.1 hg:gb728≠gb740))
     replace NB740_728:=zM ((zm BK728.1 hg:gb740≠gb728))
     replace BK728:=zM (zb BK728.1 hb)
     replace NB738_740:=zM ((zn BK738.1 hg:gb738≠gb740))
     replace NB740_738:=zM ((zm BK738.1 hg:gb740≠gb738))
     replace BK738:=zM (zb BK738.1 hb)
     refine hK.out _ _ zCs fun hHeld=>?_
     clear hK K
     refine zNo ?_
     refine zOn 6 (some 40) fun K hK=>?_
     refine zGs Try.func107 #[.agg #[.int .i64 t732,.int .i64 t733,.int .i64 t734,.int .i64 t735,.int .i64 t736],.slice A1_0 l1_0.length c1_0] ?_
     with_reducible refine (spec_Target.calls t732 t733 t734 t735 t736 _ _ l1_0 t739 _ ?side1 ?side2 A24.1).mono ?_
     (case side1=>exact zC (Kd.C_below HR1_0.1 HB.1))
     (case side2=>exact HC1_0.1)
     rintro e w90 ⟨rfl,hb⟩
     refine ⟨_,rfl,?_⟩
     replace BK727:=zM (zb BK727.1 hb)
     replace BK728:=zM (zb BK728.1 hb)
     replace BK738:=zM (zb BK738.1 hb)
     replace BK740:=zM (zb BK740.1 hb)
     replace HB:=zM (below_step zB0 hb)
     refine hK.out _ _ zCs fun hHeld=>?_
     clear hK K
     refine zNo ?_
     refine zPu 7 ?_
     exact norm_ zNr (hCont (gb740) _ ⟨hHeld,(zK BK727.1),(zK BK728.1),(zK BK738.1),(zK BK740.1),GW740.1,GE740.1,NB727_740.1,NB740_727.1,NB728_740.1,NB740_728.1,NB738_740.1,NB740_738.1,zB0⟩)
   rintro gb740 w91 ⟨hS_,h0_,h1_,h2_,h3_,h4_,h5_,h6_,h7_,h8_,h9_,h10_,h11_,h12_⟩
   replace BK727:=zM h0_
   replace BK728:=zM h1_
   replace BK738:=zM h2_
   replace BK740:=zM h3_
   replace GW740:=zM h4_
   replace GE740:=zM h5_
   replace NB727_740:=zM h6_
   replace NB740_727:=zM h7_
   replace NB728_740:=zM h8_
   replace NB740_728:=zM h9_
   replace NB738_740:=zM h10_
   replace NB740_738:=zM h11_
   replace HB:=zM h12_
   have hHeld:=hS_
   refine zNp ?_
   refine zOn 9 none fun K hK=>?_
   obtain ⟨hs92,hfs92⟩:=zHs BK740.1 0
   have hns92_0:=NB727_740.1
   have hns92_1:=NB728_740.1
   have hns92_2:=NB738_740.1
   have hms92_0:=NB740_727.1
   have hms92_1:=NB740_728.1
   have hms92_2:=NB740_738.1
   obtain ⟨hs93,hfs93⟩:=zHs BK740.1 1
   have hns93_0:=NB727_740.1
   have hns93_1:=NB728_740.1
   have hns93_2:=NB738_740.1
   have hms93_0:=NB740_727.1
   have hms93_1:=NB740_728.1
   have hms93_2:=NB740_738.1
   obtain ⟨hs94,hfs94⟩:=zHs BK740.1 2
   have hns94_0:=NB727_740.1
   have hns94_1:=NB728_740.1
   have hns94_2:=NB738_740.1
   have hms94_0:=NB740_727.1
   have hms94_1:=NB740_728.1
   have hms94_2:=NB740_738.1
   obtain ⟨hs95,hfs95⟩:=zHs BK740.1 3
   have hns95_0:=NB727_740.1
   have hns95_1:=NB728_740.1
   have hns95_2:=NB738_740.1
   have hms95_0:=NB740_727.1
   have hms95_1:=NB740_728.1
   have hms95_2:=NB740_738.1
   obtain ⟨hs96,hfs96⟩:=zHs BK740.1 4
   have hns96_0:=NB727_740.1
   have hns96_1:=NB728_740.1
   have hns96_2:=NB738_740.1
   have hms96_0:=NB740_727.1
   have hms96_1:=NB740_728.1
   have hms96_2:=NB740_738.1
   refine skip_ (w1:=?_) (by rfl) rfl ?_ ?_
   rotate_left
   ·go_simp
    rfl
   refine hK.out _ _ zCs fun hHeld=>?_
   clear hK K
   refine done_ (done_of HT_.1 (by kernel_rfl)) ?_
   have hnb97:=NB740_727.1
   have hnc97:=NB727_740.1
   have hnb98:=NB740_728.1
   have hnc98:=NB728_740.1
   have hnb99:=NB740_738.1
   have hnc99:=NB738_740.1
   have hcz100:=zc_5 (w:=w91) BK740.1
   try go_wp2
   generalize hw_:(((((w91.setCell ⟨gb740,0,none⟩ (.int .i64 a2)).setCell ⟨gb740,1,none⟩ (.int .i64 a1_1)).setCell ⟨gb740,2,none⟩ (.int .i64 t739)).setCell ⟨gb740,3,none⟩ (.int .i64 (-1))).setCell ⟨gb740,4,none⟩ (.int .i64 (-1)))=w101
   have n0_:Aside0 (w101.heap[gb727]? =some (.cells #[.slice A1_0 l1_0.length c1_0,.int .i64 a1_1,.int .i64 a1_2] 53 (0,0))):=⟨by rw [←hw_];exact zPq⟩
   have n1_:Aside0 (w101.heap[gb728]? =some (.cells #[.int .i64 0,.int .i64 0,.int .i64 0,.int .i64 0,.int .i64 0] 57 (0,0))):=⟨by rw [←hw_];exact zPq⟩
   have n2_:Aside0 (w101.heap[gb738]? =some (.cells #[.int .i64 t732,.int .i64 t733,.int .i64 t734,.int .i64 t735,.int .i64 t736] 109 (0,0))):=⟨by rw [←hw_];exact zPq⟩
   have n3_:Aside0 (w101.heap[gb740]? =some (.cells #[.int .i64 a2,.int .i64 a1_1,.int .i64 t739,.int .i64 (-1),.int .i64 (-1)] 57 (0,0))):=⟨by rw [←hw_];exact zp5 (zK BK740.1)⟩
   have n4_:Aside0 (Below w.heap.size w w101):=⟨by rw [←hw_];exact zB0⟩
   (try clear BK727)
   (try clear BK728)
   (try clear BK738)
   (try clear BK740)
   (try clear HB)
   clear hw_
   have BK727:=n0_
   have BK728:=n1_
   have BK738:=n2_
   have BK740:=n3_
   have HB:=n4_
   clear n0_ n1_ n2_ n3_ n4_
   replace BK727:=zM (blk_drew BK727.1)
   replace BK728:=zM (blk_drew BK728.1)
   replace BK738:=zM (blk_drew BK738.1)
   replace BK740:=zM (blk_drew BK740.1)
   replace HB:=zM (below_drew1 HB.1)
   obtain ⟨p741,q741,ad741,e741,hx741_0⟩:=zRd (Kd.at_int HR0.1 t739)
   have hw741_0:=hx741_0
   obtain rfl:ad731=ad741:=(by injection e741)
   replace hx741_0:=zHx HB.1 hx741_0
   refine start_ (n:=13) (S:=fun w'=>w'.cell? ⟨gb727,0,none⟩=some (.slice A1_0 l1_0.length c1_0)∧w'.cell? ⟨gb727,1,none⟩=some (.int .i64 a1_1)∧w'.cell? ⟨gb727,2,none⟩=some (.int .i64 a1_2)∧w'.cell? ⟨gb738,0,none⟩=some (.int .i64 t732)∧w'.cell? ⟨gb738,1,none⟩=some (.int .i64 t733)∧w'.cell? ⟨gb738,2,none⟩=some (.int .i64 t734)∧w'.cell? ⟨gb738,3,none⟩=some (.int .i64 t735)∧w'.cell? ⟨gb738,4,none⟩=some (.int .i64 t736)∧w'.cell? ⟨gb740,0,none⟩=some (.int .i64 a2)∧w'.cell? ⟨gb740,1,none⟩=some (.int .i64 a1_1)∧w'.cell? ⟨gb740,2,none⟩=some (.int .i64 t739)∧w'.cell? ⟨gb740,3,none⟩=some (.int .i64 (-1))∧w'.cell? ⟨gb740,4,none⟩=some (.int .i64 (-1))∧w'.cell? (ad731.add (t739).toNat)=some (.int .i64 (rd l0 t739))) (ds:=[12]) zq19_13 (by kernel_rfl) rfl rfl ⟨(blk_cell BK727.1 0).trans rfl,(blk_cell BK727.1 1).trans rfl,(blk_cell BK727.1 2).trans rfl,(blk_cell BK738.1 0).trans rfl,(blk_cell BK738.1 1).trans rfl,(blk_cell BK738.1 2).trans rfl,(blk_cell BK738.1 3).trans rfl,(blk_cell BK738.1 4).trans rfl,(blk_cell BK740.1 0).trans rfl,(blk_cell BK740.1 1).trans rfl,(blk_cell BK740.1 2).trans rfl,(blk_cell BK740.1 3).trans rfl,(blk_cell BK740.1 4).trans rfl,((HB.1.cell (World.block_lt_of_cell? w _ hw741_0)).trans hw741_0)⟩ (fun hHeld=>?_);refine with_tabW spec_EventOf.tab7 spec_EventOf.bits7 (fun HT_ HW_=>?_)
   generalize w101.drew=w102 at BK727 BK728 BK738 BK740 HB hx741_0 hHeld ⊢
   refine zPu 2 ?_
   refine zPu 3 ?_
   refine zTk14 0 hHeld ?_
   refine zTk14 1 hHeld ?_
   refine zTk14 4 hHeld ?_
   refine zPu 5 ?_
   refine zTk14 6 hHeld ?_
   refine zOn 7 (some 54) fun K hK=>?_
   refine zGs Try.func108 #[.agg #[.slice A1_0 l1_0.length c1_0,.int .i64 a1_1,.int .i64 a1_2],.agg #[.int .i64 t732,.int .i64 t733,.int .i64 t734,.int .i64 t735,.int .i64 t736],.int .i64 (rd l0 t739)] ?_
   with_reducible refine (spec_Work.calls kj3 _ _ l1_0 a1_1 a1_2 t732 t733 t734 t735 t736 (rd l0 t739) t742 t745 t746 t747 _ ?side1 ?side2 A50.1).mono ?_
   (case side1=>exact zC (Kd.C_below HR1_0.1 HB.1))
   (case side2=>exact HC1_0.1)
   rintro e w103 ⟨v743,rfl,ho0,hb⟩
   refine ⟨_,rfl,?_⟩
   have HO744:=zM (Kd.R_lower ho0 (below_size zB0))
   replace BK727:=zM (zb BK727.1 hb)
   replace BK728:=zM (zb BK728.1 hb)
   replace BK738:=zM (zb BK738.1 hb)
   replace BK740:=zM (zb BK740.1 hb)
   replace HB:=zM (below_step zB0 hb)
   (try clear ho0)
   refine hK.out _ _ ⟨(blk_cell BK727.1 0).trans rfl,(blk_cell BK727.1 1).trans rfl,(blk_cell BK727.1 2).trans rfl,(blk_cell BK738.1 0).trans rfl,(blk_cell BK738.1 1).trans rfl,(blk_cell BK738.1 2).trans rfl,(blk_cell BK738.1 3).trans rfl,(blk_cell BK738.1 4).trans rfl,(blk_cell BK740.1 0).trans rfl,(blk_cell BK740.1 1).trans rfl,(blk_cell BK740.1 2).trans rfl,(blk_cell BK740.1 3).trans rfl,(blk_cell BK740.1 4).trans rfl,((HB.1.cell (World.block_lt_of_cell? w _ hw741_0)).trans hw741_0)⟩ (fun hHeld=>?_)
   clear hK K
   refine zNo ?_
   refine zPu 8 ?_
   refine zPu 9 ?_
   refine zPu 10 ?_
   refine zPu 11 ?_
   refine last_ (i:=12) (N:=none) zq19_26 rfl rfl (one_of HT_.1 (by kernel_rfl)) (by decide) (fun K hK=>?_)
   obtain ⟨hs104,hfs104⟩:=zHs BK740.1 4
   have hns104_0:=NB727_740.1
   have hns104_1:=NB728_740.1
   have hns104_2:=NB738_740.1
   have hms104_0:=NB740_727.1
   have hms104_1:=NB740_728.1
   have hms104_2:=NB740_738.1
   refine skip_ (w1:=?_) (by rfl) rfl ?_ ?_
   rotate_left
   ·go_simp
    rfl
   refine hK.out _ _ ?_
   clear hK K
   refine done_ (done_of HT_.1 (by kernel_rfl)) ?_
   have hcz105:=zc_5 (w:=w103) BK738.1
   have hcz106:=zc_5 (w:=w103) BK740.1
   obtain ⟨p748,q748,ad748,e748,hx748_0⟩:=zRd (Kd.at_int HR0.1 t739)
   obtain rfl:ad731=ad748:=(by injection e748)
   have hn748_0:ad731.block≠gb740:=Nat.ne_of_lt (Nat.lt_of_lt_of_le (by have:=World.block_lt_of_cell? _ _ hx748_0;first|rwa [add_block] at this|exact this) GW740.1)
   replace hx748_0:=zHx HB.1 hx748_0
   replace hx748_0:=(cell_far (p:=⟨gb740,4,none⟩) (by first|(rw [add_block];exact hn748_0)|(show (Addr.add _ _).block≠_;rw [add_block];exact hn748_0)|exact hn748_0) (.int .i64 t747)).trans hx748_0
   clear hn748_0
   have hcz107:=zc_5 (w:=w103) BK728.1
   try go_wp2
   refine bodyPost_ret (results_ct rfl _ _ gb728 57 #[.int .i64 a2,.int .i64 a1_1,.int .i64 t739,.int .i64 (rd l0 t739),.int .i64 t747] (0,0) _ rfl zPq Try.underlying57 rfl (by kernel_rfl)) rfl ?_
   exact ⟨zE,zB0⟩

end Go.Proofs.Ytpcgecacaemalaa.PFnStops
