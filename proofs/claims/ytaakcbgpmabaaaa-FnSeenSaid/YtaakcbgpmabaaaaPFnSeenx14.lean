-- made by wip/tools/myprint.py out of the seat's translation
import Derived.Test.YtaakcbgpmabaaaaPFnSeenx0
import Derived.Test.YtaakcbgpmabaaaaPFnSeenx4
import Derived.Test.YtaakcbgpmabaaaaPFnSeenx5
import Derived.Test.YtaakcbgpmabaaaaPFnSeenx11
import Derived.Test.YtaakcbgpmabaaaaPFnSeenx12
import Derived.Test.YtaakcbgpmabaaaaPFnSeenx13
namespace Go.Proofs.Ytaakcbgpmabaaaa.PFnSeen
open Go.RowKit Go.Proofs.YtaakcbgpmabaaaaW.PrintWords Go.Proofs.YtaakcbgpmabaaaaW.PrintLast Go.Proofs.YtaakcbgpmabaaaaW.PrintMore
attribute [local go_sem] max2_int min2_int max_two min_two max_three min_three max_four min_four -- for this text's walks alone
set_option linter.unusedVariables false
set_option linter.unusedSimpArgs false
set_option maxHeartbeats 8000000
set_option maxRecDepth 100000
abbrev zq14_0:Array Bool:=#[false,false,false,false,false,false,false,false,false,false]
abbrev zq14_7:Array Bool:=#[true,true,true,true,true,true,true,true,true,false]
abbrev zq14_8:Array Bool:=#[true,true,true,true,true,true,true,false,false,false]
abbrev zq14_9:Array Bool:=#[true,true,true,true,true,true,false,false,true,false]
abbrev zq14_13:Array Bool:=#[false,false,false,false,false,false,false,false,false,false,false,false,false]
abbrev zq14_26:Array Bool:=#[true,true,true,true,true,true,true,true,true,true,true,true,true]

/-! ### spec_EventOf: function 81 -/
def spec_EventOf.j0:Nat→List Int→Int→Bool→List Int→Int→Int→Option (Int×Int×Int×Int×Int×Bool)
 |0,_,_,_,_,_,_=>none
 |k+1,x0,x2,x23,x554000,x554001,x554002=>if x23=true then (some (0,0,0,0,0,false)) else (if 0≤x554001 then (if x554001<(x0.length:Int) then ((spec_Decode.f (rd x0 x554001)).bind fun bt558=>((spec_Target.f bt558.1 bt558.2.1 bt558.2.2.1 bt558.2.2.2.1 bt558.2.2.2.2.1 x554000).bind fun t565=>(if t565<0 then (some (x2,x554001,t565,(-1),(-1),true)) else (if 0≤t565 then (if t565<(x0.length:Int) then ((spec_Work.f k x554000 x554001 x554002 bt558.1 bt558.2.1 bt558.2.2.1 bt558.2.2.2.1 bt558.2.2.2.2.1 (rd x0 t565)).bind fun bt568=>(if bt558.1=5 then (some (x2,x554001,t565,(-1),bt568.2.2.2,true)) else (some (x2,x554001,t565,rd x0 t565,bt568.2.2.2,true)))) else (none)) else (none))))) else (none)) else (none))
def spec_EventOf.f (k:Nat) (l0:List Int) (l1_0:List Int) (a1_1:Int) (a1_2:Int) (a2:Int):Option (Int×Int×Int×Int×Int×Bool):=(spec_l1Words.f k l0 24).bind fun t555=>(if t555=true then ((spec_HartOk.f k l1_0 a1_1 a1_2).bind fun t556=>(if t556=true then (spec_EventOf.j0 k l0 a2 (a1_2 != 0) l1_0 a1_1 a1_2) else (spec_EventOf.j0 k l0 a2 true l1_0 a1_1 a1_2))) else (spec_EventOf.j0 k l0 a2 true l1_0 a1_1 a1_2))
theorem spec_EventOf.mono_l: ∀k,(∀y0 y1 y2 y3 y4 y5,LeO (spec_EventOf.j0 k y0 y1 y2 y3 y4 y5) (spec_EventOf.j0 (k+1) y0 y1 y2 y3 y4 y5))
 |0=>fun _ _ _ _ _ _ r h=>by simp [spec_EventOf.j0] at h
 |k+1=>by
  have ih0:=spec_EventOf.mono_l k
  ·intros
   unfold spec_EventOf.j0
   have mo0:=@spec_HartOk.mono
   have mo1:=@spec_Work.mono
   have mo2:=@spec_l1Words.mono
   exact zL
theorem spec_EventOf.mono: ∀a0 a1 a2 a3 a4 k,LeO (spec_EventOf.f k a0 a1 a2 a3 a4) (spec_EventOf.f (k+1) a0 a1 a2 a3 a4):=by
 intro a0 a1 a2 a3 a4 k
 have ih0:=spec_EventOf.mono_l k
 unfold spec_EventOf.f
 have mo0:=@spec_HartOk.mono
 have mo1:=@spec_Work.mono
 have mo2:=@spec_l1Words.mono
 exact zL
def spec_EventOf.T4:Bool×List (List Nat×List Nat):=(true,[([],[]),([],[]),([1],[1]),([],[]),([],[]),([4],[4]),([3,5],[3,5]),([0,2,6],[0,2,6]),([],[]),([8,7,6,0,1,2,3,4,5,6,7,8],[7,8])])
def spec_EventOf.B4:List Nat:=[0,0,2,0,0,16,56,127,0,511]
theorem spec_EventOf.tab4:rtab .any (opsOf Try.f81 4)=spec_EventOf.T4:=by kernel_rfl
theorem spec_EventOf.bits4:waitsOk spec_EventOf.T4.2 spec_EventOf.B4=true:=by kernel_rfl
def spec_EventOf.T7:Bool×List (List Nat×List Nat):=(true,[([],[]),([],[]),([],[]),([],[]),([3],[3]),([2,4],[2,4]),([5],[5]),([0,1,6],[0,1,6]),([7],[7]),([8],[8]),([8],[8]),([0,1,2,3,4,5,6,7,8,9,10],[]),([11,10,7,0,1,2,3,4,5,6,7,8,9,10],[10,11])])
def spec_EventOf.B7:List Nat:=[0,0,0,0,8,28,60,127,255,511,511,2047,4095]
theorem spec_EventOf.tab7:rtab .any (opsOf Try.f81 7)=spec_EventOf.T7:=by kernel_rfl
theorem spec_EventOf.bits7:waitsOk spec_EventOf.T7.2 spec_EventOf.B7=true:=by kernel_rfl
theorem spec_EventOf.calls (k:Nat) (A0:Option Addr) (c0:Nat) (l0:List Int) (A1_0:Option Addr) (c1_0:Nat) (l1_0:List Int) (a1_1:Int) (a1_2:Int) (a2:Int) (r1:Int) (r2:Int) (r3:Int) (r4:Int) (r5:Int) (r6:Bool) (w:World) (hr0:Kd.C (Kd.int .i64) w A0 l0.length l0) (hc0:l0.length≤c0) (hr1_0:Kd.C (Kd.int .i64) w A1_0 l1_0.length l1_0) (hc1_0:l1_0.length≤c1_0) (h:spec_EventOf.f k l0 l1_0 a1_1 a1_2 a2=some (r1,r2,r3,r4,r5,r6)):
  Calls Try.prog 81 #[.slice A0 l0.length c0,.agg #[.slice A1_0 l1_0.length c1_0,.int .i64 a1_1,.int .i64 a1_2],.int .i64 a2] w fun e w'=>e= .returned (.tuple #[.agg #[.int .i64 r1,.int .i64 r2,.int .i64 r3,.int .i64 r4,.int .i64 r5],.bool r6])∧Below w.heap.size w w':=by
 have hu72:=Try.underlying72
 have hu74:=Try.underlying74
 have hu57:=Try.underlying57
 have HR0:=zM hr0
 have HC0:=zM hc0
 clear hr0 hc0
 have HR1_0:=zM hr1_0
 have HC1_0:=zM hc1_0
 clear hr1_0 hc1_0
 have HB:=zM (Below.refl w.heap.size w)
 unfold spec_EventOf.f at h
 have H:=h
 clear h
 have HC4:=zM H
 clear H
 go_enter Try.func81,Try.ntmps81
 go_upto_region 1 with (first|((with_reducible refine zBx 4 72 #[.slice A1_0 l1_0.length c1_0,.int .i64 a1_1,.int .i64 a1_2] ?_);intro gb553 hg w5 hbox hb;have BK553:=zM hbox;have GW553:=zM (zW hg (below_size zB3));have GE553:=zM (zW hg (below_size zB3));replace HB:=zM (below_step zB3 hb);clear hb hbox hg)|((with_reducible refine zBx 6 74 #[.int .i64 0,.int .i64 0,.int .i64 0,.int .i64 0,.int .i64 0] ?_);intro gb554 hg w6 hbox hb;have BK554:=zM hbox;have GW554:=zM (zW hg (below_size zB3));have GE554:=zM (zW hg (below_size zB3));replace HB:=zM (below_step zB3 hb);have NB553_554:=zM ((zn BK553.1 hg:gb553≠gb554));have NB554_553:=zM ((zm BK553.1 hg:gb554≠gb553));replace BK553:=zM (zb BK553.1 hb);clear hb hbox hg))
 (try simp only [Act.put,List.setIfInBounds_toArray,List.set_cons_zero,List.set_cons_succ])
 go_cut [23] (fun v23 wc=>∃(kq:Nat) (x23_3:Bool),v23= .bool x23_3∧Aside0 (spec_EventOf.j0 kq l0 a2 x23_3 l1_0 a1_1 a1_2=some (r1,r2,r3,r4,r5,r6))∧Aside0 (kq≤k)∧Aside0 (wc.heap[gb553]? =some (.cells #[(.slice A1_0 l1_0.length c1_0),.int .i64 a1_1,.int .i64 a1_2] 72 (0,0)))∧Aside0 (wc.heap[gb554]? =some (.cells #[.int .i64 0,.int .i64 0,.int .i64 0,.int .i64 0,.int .i64 0] 74 (0,0)))∧Aside0 (Below w.heap.size w wc))
 case first=>
  have H:=HC4.1
  clear HC4
  replace H:=zO H
  obtain ⟨t555,A7,H⟩:=H
  by_cases c8:t555=true
  rotate_left
  ·replace c8:=Bool.eq_false_iff.mpr c8
   subst c8
   rw [if_neg zF] at H
   have H':=zM H
   clear H
   go_wp2_with (first|((with_reducible refine zG Try.func48 12 #[.slice A0 l0.length c0,.int .i64 24] ?_);(with_reducible refine (spec_l1Words.calls k _ _ l0 24 false _ ?side1 ?side2 A7.1).mono ?_);(case side1=>exact zC (Kd.C_below HR0.1 HB.1));(case side2=>exact HC0.1);rintro e w' ⟨rfl,⟨nd,rfl⟩⟩;refine ⟨_,rfl,?_⟩))
   go_meet
   case rel=>exact ⟨_,(true),zJJ,H',⟨by first|omega|exact Nat.le_refl _⟩,⟨zK BK553.1⟩,⟨zK BK554.1⟩,⟨zB3⟩⟩
  subst c8
  rw [if_pos rfl] at H
  replace H:=zO H
  obtain ⟨t556,A9,H⟩:=H
  by_cases c10:t556=true
  rotate_left
  ·replace c10:=Bool.eq_false_iff.mpr c10
   subst c10
   rw [if_neg zF] at H
   have H':=zM H
   clear H
   go_wp2_with (first|((with_reducible refine zG Try.func48 12 #[.slice A0 l0.length c0,.int .i64 24] ?_);(with_reducible refine (spec_l1Words.calls k _ _ l0 24 true _ ?side1 ?side2 A7.1).mono ?_);(case side1=>exact zC (Kd.C_below HR0.1 HB.1));(case side2=>exact HC0.1);rintro e w' ⟨rfl,⟨nd,rfl⟩⟩;refine ⟨_,rfl,?_⟩;have hnb15:=NB553_554.1;have hnc15:=NB554_553.1;have hcz16:=zc_3 (w:=w6) BK553.1)|(go_at_call 74;(with_reducible refine (spec_HartOk.calls k _ _ l1_0 a1_1 a1_2 false _ ?side1 ?side2 A9.1).mono ?_);(case side1=>repeat (first|exact (Kd.C_below HR1_0.1 zB3)|(with_reducible refine Kd.C_alloc ?_ _)|(with_reducible refine Kd.C_drewN ?_ _)|(with_reducible refine Kd.C_drew ?_)));(case side2=>exact HC1_0.1);rintro e w17 ⟨rfl,hb⟩;replace BK553:=zM (zb BK553.1 hb);replace BK554:=zM (zb BK554.1 hb);replace HB:=zM (below_step zB3 hb);clear hb))
   go_meet
   case rel=>exact ⟨_,(true),zJJ,H',⟨by first|omega|exact Nat.le_refl _⟩,⟨zK BK553.1⟩,⟨zK BK554.1⟩,⟨zB3⟩⟩
  subst c10
  rw [if_pos rfl] at H
  have H':=zM H
  clear H
  go_wp2_with (first|((with_reducible refine zG Try.func48 12 #[.slice A0 l0.length c0,.int .i64 24] ?_);(with_reducible refine (spec_l1Words.calls k _ _ l0 24 true _ ?side1 ?side2 A7.1).mono ?_);(case side1=>exact zC (Kd.C_below HR0.1 HB.1));(case side2=>exact HC0.1);rintro e w' ⟨rfl,⟨nd,rfl⟩⟩;refine ⟨_,rfl,?_⟩;have hnb11:=NB553_554.1;have hnc11:=NB554_553.1;have hcz12:=zc_3 (w:=w6) BK553.1)|(go_at_call 74;(with_reducible refine (spec_HartOk.calls k _ _ l1_0 a1_1 a1_2 true _ ?side1 ?side2 A9.1).mono ?_);(case side1=>repeat (first|exact (Kd.C_below HR1_0.1 zB3)|(with_reducible refine Kd.C_alloc ?_ _)|(with_reducible refine Kd.C_drewN ?_ _)|(with_reducible refine Kd.C_drew ?_)));(case side2=>exact HC1_0.1);rintro e w13 ⟨rfl,hb⟩;replace BK553:=zM (zb BK553.1 hb);replace BK554:=zM (zb BK554.1 hb);replace HB:=zM (below_step zB3 hb);clear hb;have hcz14:=zc_3 (w:=w13) BK553.1))
  go_meet
  case rel=>exact ⟨_,((a1_2 != 0)),zJJ,H',⟨by first|omega|exact Nat.le_refl _⟩,⟨zK BK553.1⟩,⟨zK BK554.1⟩,⟨zB3⟩⟩
 case rest=>
  clear HC4
  obtain ⟨kq,x23_3,rfl,HA,HJ3,BK553,BK554,HB⟩:=hcut
  cases kq with
  |zero=>exact absurd HA.1 (by simp [spec_EventOf.j0])
  |succ kj3=>
   have H:=HA.1
   clear HA
   simp only [spec_EventOf.j0] at H
   by_cases c18:x23_3=true
   ·subst c18
    rw [if_pos rfl] at H
    simp only [Option.some.injEq,Prod.mk.injEq] at H
    obtain ⟨rfl,rfl,rfl,rfl,rfl,rfl⟩:=H
    have hnb19:=NB554_553.1
    have hnc19:=NB553_554.1
    have hcz20:=zc_5 (w:=wc) BK554.1
    go_wp2
    refine bodyPost_ret (results_ct rfl _ _ gb554 74 #[.int .i64 0,.int .i64 0,.int .i64 0,.int .i64 0,.int .i64 0] (0,0) _ rfl (by exact zp5 (zK BK554.1)) Try.underlying74 rfl (by kernel_rfl)) rfl ?_
    exact ⟨zE,zB3⟩
   replace c18:=Bool.eq_false_iff.mpr c18
   subst c18
   rw [if_neg zF] at H
   replace H:=zIt H
   obtain ⟨c21b0,H⟩:=H
   replace H:=zIt H
   obtain ⟨c22b0,H⟩:=H
   replace H:=zO H
   obtain ⟨⟨t558,t559,t560,t561,t562,t563⟩,A23,H⟩:=H
   try dsimp only at H
   replace H:=zO H
   obtain ⟨t565,A24,H⟩:=H
   by_cases c25:t565<0
   ·rw [if_pos c25] at H
    have c25b0:=decide_eq_true c25
    clear c25
    simp only [Option.some.injEq,Prod.mk.injEq] at H
    obtain ⟨rfl,rfl,rfl,rfl,rfl,rfl⟩:=H
    have hnb26:=NB553_554.1
    have hnc26:=NB554_553.1
    have hcz27:=zc_3 (w:=wc) BK553.1
    obtain ⟨p557,q557,ad557,e557,hx557_0⟩:=zRd (Kd.at_int HR0.1 a1_1)
    cases e557
    replace hx557_0:=zHx HB.1 hx557_0
    try go_wp2_with (first|((with_reducible refine zG Try.func108 31 #[.int .i64 (rd l0 a1_1)] ?_);(with_reducible refine (spec_Decode.calls (rd l0 a1_1) t558 t559 t560 t561 t562 t563 _ A23.1).mono ?_);rintro e w28 ⟨rfl,hb⟩;refine ⟨_,rfl,?_⟩;replace BK553:=zM (zb BK553.1 hb);replace BK554:=zM (zb BK554.1 hb);replace HB:=zM (below_step zB3 hb);clear hb)|((with_reducible refine zBx 8 57 #[.int .i64 0,.int .i64 0,.int .i64 0,.int .i64 0,.int .i64 0] ?_);intro gb564 hg w29 hbox hb;have BK564:=zM hbox;have GW564:=zM (zW hg (below_size zB3));have GE564:=zM (zW hg (below_size zB3));replace HB:=zM (below_step zB3 hb);have NB553_564:=zM ((zn BK553.1 hg:gb553≠gb564));have NB564_553:=zM ((zm BK553.1 hg:gb564≠gb553));replace BK553:=zM (zb BK553.1 hb);have NB554_564:=zM ((zn BK554.1 hg:gb554≠gb564));have NB564_554:=zM ((zm BK554.1 hg:gb564≠gb554));replace BK554:=zM (zb BK554.1 hb);clear hb hbox hg;have hnb30:=NB564_553.1;have hnc30:=NB553_564.1;have hnb31:=NB564_554.1;have hnc31:=NB554_564.1;have hcz32:=zc_5 (w:=w29) BK564.1))
    generalize hw_:(((((w29.setCell ⟨gb564,0,none⟩ (.int .i64 t558)).setCell ⟨gb564,1,none⟩ (.int .i64 t559)).setCell ⟨gb564,2,none⟩ (.int .i64 t560)).setCell ⟨gb564,3,none⟩ (.int .i64 t561)).setCell ⟨gb564,4,none⟩ (.int .i64 t562))=w33
    have n0_:Aside0 (w33.heap[gb553]? =some (.cells #[.slice A1_0 l1_0.length c1_0,.int .i64 a1_1,.int .i64 a1_2] 72 (0,0))):=⟨by rw [←hw_];exact zPq⟩
    have n1_:Aside0 (w33.heap[gb554]? =some (.cells #[.int .i64 0,.int .i64 0,.int .i64 0,.int .i64 0,.int .i64 0] 74 (0,0))):=⟨by rw [←hw_];exact zPq⟩
    have n2_:Aside0 (w33.heap[gb564]? =some (.cells #[.int .i64 t558,.int .i64 t559,.int .i64 t560,.int .i64 t561,.int .i64 t562] 57 (0,0))):=⟨by rw [←hw_];exact zp5 (zK BK564.1)⟩
    have n3_:Aside0 (Below w.heap.size w w33):=⟨by rw [←hw_];exact zB3⟩
    (try clear BK553)
    (try clear BK554)
    (try clear BK564)
    (try clear HB)
    clear hw_
    have BK553:=n0_
    have BK554:=n1_
    have BK564:=n2_
    have HB:=n3_
    clear n0_ n1_ n2_ n3_
    replace BK553:=zM (blk_drew BK553.1)
    replace BK554:=zM (blk_drew BK554.1)
    replace BK564:=zM (blk_drew BK564.1)
    replace HB:=zM (below_drew1 HB.1)
    refine start_ (n:=10) (S:=fun w'=>w'.cell? ⟨gb553,0,none⟩=some (.slice A1_0 l1_0.length c1_0)∧w'.cell? ⟨gb553,1,none⟩=some (.int .i64 a1_1)∧w'.cell? ⟨gb553,2,none⟩=some (.int .i64 a1_2)∧w'.cell? ⟨gb564,0,none⟩=some (.int .i64 t558)∧w'.cell? ⟨gb564,1,none⟩=some (.int .i64 t559)∧w'.cell? ⟨gb564,2,none⟩=some (.int .i64 t560)∧w'.cell? ⟨gb564,3,none⟩=some (.int .i64 t561)∧w'.cell? ⟨gb564,4,none⟩=some (.int .i64 t562)) (ds:=[]) zq14_0 (by kernel_rfl) rfl rfl ⟨(blk_cell BK553.1 0).trans rfl,(blk_cell BK553.1 1).trans rfl,(blk_cell BK553.1 2).trans rfl,(blk_cell BK564.1 0).trans rfl,(blk_cell BK564.1 1).trans rfl,(blk_cell BK564.1 2).trans rfl,(blk_cell BK564.1 3).trans rfl,(blk_cell BK564.1 4).trans rfl⟩ (fun hHeld=>?_);refine with_tabW spec_EventOf.tab4 spec_EventOf.bits4 (fun HT_ HW_=>?_)
    generalize w33.drew=w34 at BK553 BK554 BK564 HB hHeld ⊢
    refine zPu 0 ?_
    refine zPu 1 ?_
    refine zPu 4 ?_
    refine zTk8 2 hHeld ?_
    refine zTk8 3 hHeld ?_
    refine zTk8 5 hHeld ?_
    refine join_ (σ:=Nat) 1 zq14_7 (fun s_=>[(40,.int .i64 t565),(10,.pointer (some ⟨s_,0,none⟩)),(41,.agg #[.int .i64 a2,.int .i64 a1_1,.int .i64 t565,.int .i64 (-1),.int .i64 (-1)])]) (fun s_ w'=>(w'.cell? ⟨gb553,0,none⟩=some (.slice A1_0 l1_0.length c1_0)∧w'.cell? ⟨gb553,1,none⟩=some (.int .i64 a1_1)∧w'.cell? ⟨gb553,2,none⟩=some (.int .i64 a1_2)∧w'.cell? ⟨gb564,0,none⟩=some (.int .i64 t558)∧w'.cell? ⟨gb564,1,none⟩=some (.int .i64 t559)∧w'.cell? ⟨gb564,2,none⟩=some (.int .i64 t560)∧w'.cell? ⟨gb564,3,none⟩=some (.int .i64 t561)∧w'.cell? ⟨gb564,4,none⟩=some (.int .i64 t562))∧(w'.heap[gb553]? =some (.cells #[.slice A1_0 l1_0.length c1_0,.int .i64 a1_1,.int .i64 a1_2] 72 (0,0)))∧(w'.heap[gb554]? =some (.cells #[.int .i64 0,.int .i64 0,.int .i64 0,.int .i64 0,.int .i64 0] 74 (0,0)))∧(w'.heap[gb564]? =some (.cells #[.int .i64 t558,.int .i64 t559,.int .i64 t560,.int .i64 t561,.int .i64 t562] 57 (0,0)))∧(w'.heap[s_]? =some (.cells #[.int .i64 0,.int .i64 0,.int .i64 0,.int .i64 0,.int .i64 0] 74 (0,0)))∧(w.heap.size≤s_)∧(w.heap.size≤s_)∧(gb553≠s_)∧(s_≠gb553)∧(gb554≠s_)∧(s_≠gb554)∧(gb564≠s_)∧(s_≠gb564)∧(Below w.heap.size w w')) ?_ ?_
    rotate_left
    ·intro hCont
     refine two_ (i:=6) (j:=8) (Ni:=some 40) (Nj:=some 10) zq14_8 zq14_9 rfl rfl rfl rfl (two_of HT_.1 (by kernel_rfl)) (by decide) (by decide) (fun K hK=>?_) (fun K hK=>?_)
     ·refine zGs Try.func109 #[.agg #[.int .i64 t558,.int .i64 t559,.int .i64 t560,.int .i64 t561,.int .i64 t562],.slice A1_0 l1_0.length c1_0] ?_
      with_reducible refine (spec_Target.calls t558 t559 t560 t561 t562 _ _ l1_0 t565 _ ?side1 ?side2 A24.1).mono ?_
      (case side1=>exact zC (Kd.C_below HR1_0.1 HB.1))
      (case side2=>exact HC1_0.1)
      rintro e w35 ⟨rfl,hb⟩
      refine ⟨_,rfl,?_⟩
      replace BK553:=zM (zb BK553.1 hb)
      replace BK554:=zM (zb BK554.1 hb)
      replace BK564:=zM (zb BK564.1 hb)
      replace HB:=zM (below_step zB3 hb)
      refine hK.out _ _ zCs fun hHeld=>?_
      clear hK K
      refine zNo ?_
      refine zPu 7 ?_
      refine zOn 8 (some 10) fun K hK=>?_
      refine zBs 10 74 #[.int .i64 0,.int .i64 0,.int .i64 0,.int .i64 0,.int .i64 0] ?_
      intro gb566 hg w36 hbox hb
      replace BK566:=zM hbox
      replace GW566:=zM (zW hg (below_size zB3))
      replace GE566:=zM (zW hg (below_size zB3))
      replace HB:=zM (below_step zB3 hb)
      replace NB553_566:=zM ((zn BK553.1 hg:gb553≠gb566))
      replace NB566_553:=zM ((zm BK553.1 hg:gb566≠gb553))
      replace BK553:=zM (zb BK553.1 hb)
      replace NB554_566:=zM ((zn BK554.1 hg:gb554≠gb566))
      replace NB566_554:=zM ((zm BK554.1 hg:gb566≠gb554))
      replace BK554:=zM (zb BK554.1 hb)
      replace NB564_566:=zM ((zn BK564.1 hg:gb564≠gb566))
      replace NB566_564:=zM ((zm BK564.1 hg:gb566≠gb564))
      replace BK564:=zM (zb BK564.1 hb)
      refine hK.out _ _ zCs fun hHeld=>?_
      clear hK K
      refine zNo ?_
      exact norm_ zNr (hCont (gb566) _ ⟨hHeld,(zK BK553.1),(zK BK554.1),(zK BK564.1),(zK BK566.1),GW566.1,GE566.1,NB553_566.1,NB566_553.1,NB554_566.1,NB566_554.1,NB564_566.1,NB566_564.1,zB3⟩)
     ·refine zBs 10 74 #[.int .i64 0,.int .i64 0,.int .i64 0,.int .i64 0,.int .i64 0] ?_
      intro gb566 hg w35 hbox hb
      replace BK566:=zM hbox
      replace GW566:=zM (zW hg (below_size zB3))
      replace GE566:=zM (zW hg (below_size zB3))
      replace HB:=zM (below_step zB3 hb)
      replace NB553_566:=zM ((zn BK553.1 hg:gb553≠gb566))
      replace NB566_553:=zM ((zm BK553.1 hg:gb566≠gb553))
      replace BK553:=zM (zb BK553.1 hb)
      replace NB554_566:=zM ((zn BK554.1 hg:gb554≠gb566))
      replace NB566_554:=zM ((zm BK554.1 hg:gb566≠gb554))
      replace BK554:=zM (zb BK554.1 hb)
      replace NB564_566:=zM ((zn BK564.1 hg:gb564≠gb566))
      replace NB566_564:=zM ((zm BK564.1 hg:gb566≠gb564))
      replace BK564:=zM (zb BK564.1 hb)
      refine hK.out _ _ zCs fun hHeld=>?_
      clear hK K
      refine zNo ?_
      refine zOn 6 (some 40) fun K hK=>?_
      refine zGs Try.func109 #[.agg #[.int .i64 t558,.int .i64 t559,.int .i64 t560,.int .i64 t561,.int .i64 t562],.slice A1_0 l1_0.length c1_0] ?_
      with_reducible refine (spec_Target.calls t558 t559 t560 t561 t562 _ _ l1_0 t565 _ ?side1 ?side2 A24.1).mono ?_
      (case side1=>exact zC (Kd.C_below HR1_0.1 HB.1))
      (case side2=>exact HC1_0.1)
      rintro e w36 ⟨rfl,hb⟩
      refine ⟨_,rfl,?_⟩
      replace BK553:=zM (zb BK553.1 hb)
      replace BK554:=zM (zb BK554.1 hb)
      replace BK564:=zM (zb BK564.1 hb)
      replace BK566:=zM (zb BK566.1 hb)
      replace HB:=zM (below_step zB3 hb)
      refine hK.out _ _ zCs fun hHeld=>?_
      clear hK K
      refine zNo ?_
      refine zPu 7 ?_
      exact norm_ zNr (hCont (gb566) _ ⟨hHeld,(zK BK553.1),(zK BK554.1),(zK BK564.1),(zK BK566.1),GW566.1,GE566.1,NB553_566.1,NB566_553.1,NB554_566.1,NB566_554.1,NB564_566.1,NB566_564.1,zB3⟩)
    rintro gb566 w37 ⟨hS_,h0_,h1_,h2_,h3_,h4_,h5_,h6_,h7_,h8_,h9_,h10_,h11_,h12_⟩
    replace BK553:=zM h0_
    replace BK554:=zM h1_
    replace BK564:=zM h2_
    replace BK566:=zM h3_
    replace GW566:=zM h4_
    replace GE566:=zM h5_
    replace NB553_566:=zM h6_
    replace NB566_553:=zM h7_
    replace NB554_566:=zM h8_
    replace NB566_554:=zM h9_
    replace NB564_566:=zM h10_
    replace NB566_564:=zM h11_
    replace HB:=zM h12_
    have hHeld:=hS_
    refine zNp ?_
    refine zOn 9 none fun K hK=>?_
    obtain ⟨hs38,hfs38⟩:=zHs BK566.1 0
    have hns38_0:=NB553_566.1
    have hns38_1:=NB554_566.1
    have hns38_2:=NB564_566.1
    have hms38_0:=NB566_553.1
    have hms38_1:=NB566_554.1
    have hms38_2:=NB566_564.1
    obtain ⟨hs39,hfs39⟩:=zHs BK566.1 1
    have hns39_0:=NB553_566.1
    have hns39_1:=NB554_566.1
    have hns39_2:=NB564_566.1
    have hms39_0:=NB566_553.1
    have hms39_1:=NB566_554.1
    have hms39_2:=NB566_564.1
    obtain ⟨hs40,hfs40⟩:=zHs BK566.1 2
    have hns40_0:=NB553_566.1
    have hns40_1:=NB554_566.1
    have hns40_2:=NB564_566.1
    have hms40_0:=NB566_553.1
    have hms40_1:=NB566_554.1
    have hms40_2:=NB566_564.1
    obtain ⟨hs41,hfs41⟩:=zHs BK566.1 3
    have hns41_0:=NB553_566.1
    have hns41_1:=NB554_566.1
    have hns41_2:=NB564_566.1
    have hms41_0:=NB566_553.1
    have hms41_1:=NB566_554.1
    have hms41_2:=NB566_564.1
    obtain ⟨hs42,hfs42⟩:=zHs BK566.1 4
    have hns42_0:=NB553_566.1
    have hns42_1:=NB554_566.1
    have hns42_2:=NB564_566.1
    have hms42_0:=NB566_553.1
    have hms42_1:=NB566_554.1
    have hms42_2:=NB566_564.1
    refine skip_ (w1:=?_) (by rfl) rfl ?_ ?_
    rotate_left
    ·go_simp
     rfl
    refine hK.out _ _ zCs fun hHeld=>?_
    clear hK K
    refine done_ (done_of HT_.1 (by kernel_rfl)) ?_
    have hnb43:=NB566_553.1
    have hnc43:=NB553_566.1
    have hnb44:=NB566_554.1
    have hnc44:=NB554_566.1
    have hnb45:=NB566_564.1
    have hnc45:=NB564_566.1
    have hcz46:=zc_5 (w:=w37) BK566.1
    have hcz47:=zc_5 (w:=w37) BK554.1
    try go_wp2
    refine bodyPost_ret (results_ct rfl _ _ gb554 74 #[.int .i64 a2,.int .i64 a1_1,.int .i64 t565,.int .i64 (-1),.int .i64 (-1)] (0,0) _ rfl zPq Try.underlying74 rfl (by kernel_rfl)) rfl ?_
    exact ⟨zE,zB3⟩
   rw [if_neg c25] at H
   have c25b0:=decide_eq_false c25
   clear c25
   replace H:=zIt H
   obtain ⟨c48b0,H⟩:=H
   replace H:=zIt H
   obtain ⟨c49b0,H⟩:=H
   replace H:=zO H
   obtain ⟨⟨t568,t571,t572,t573⟩,A50,H⟩:=H
   try dsimp only at H
   by_cases c51:t558=5
   ·rw [if_pos c51] at H
    have c51b0:(t558 == 5)=true:=beq_iff_eq.mpr c51
    have c51b1:(t558 != 5)=false:=bne_eq_false_iff_eq.mpr c51
    clear c51
    simp only [Option.some.injEq,Prod.mk.injEq] at H
    obtain ⟨rfl,rfl,rfl,rfl,rfl,rfl⟩:=H
    have hnb52:=NB553_554.1
    have hnc52:=NB554_553.1
    have hcz53:=zc_3 (w:=wc) BK553.1
    obtain ⟨p557,q557,ad557,e557,hx557_0⟩:=zRd (Kd.at_int HR0.1 a1_1)
    cases e557
    replace hx557_0:=zHx HB.1 hx557_0
    try go_wp2_with (first|((with_reducible refine zG Try.func108 31 #[.int .i64 (rd l0 a1_1)] ?_);(with_reducible refine (spec_Decode.calls (rd l0 a1_1) t558 t559 t560 t561 t562 t563 _ A23.1).mono ?_);rintro e w54 ⟨rfl,hb⟩;refine ⟨_,rfl,?_⟩;replace BK553:=zM (zb BK553.1 hb);replace BK554:=zM (zb BK554.1 hb);replace HB:=zM (below_step zB3 hb);clear hb)|((with_reducible refine zBx 8 57 #[.int .i64 0,.int .i64 0,.int .i64 0,.int .i64 0,.int .i64 0] ?_);intro gb564 hg w55 hbox hb;have BK564:=zM hbox;have GW564:=zM (zW hg (below_size zB3));have GE564:=zM (zW hg (below_size zB3));replace HB:=zM (below_step zB3 hb);have NB553_564:=zM ((zn BK553.1 hg:gb553≠gb564));have NB564_553:=zM ((zm BK553.1 hg:gb564≠gb553));replace BK553:=zM (zb BK553.1 hb);have NB554_564:=zM ((zn BK554.1 hg:gb554≠gb564));have NB564_554:=zM ((zm BK554.1 hg:gb564≠gb554));replace BK554:=zM (zb BK554.1 hb);clear hb hbox hg;have hnb56:=NB564_553.1;have hnc56:=NB553_564.1;have hnb57:=NB564_554.1;have hnc57:=NB554_564.1;have hcz58:=zc_5 (w:=w55) BK564.1))
    generalize hw_:(((((w55.setCell ⟨gb564,0,none⟩ (.int .i64 t558)).setCell ⟨gb564,1,none⟩ (.int .i64 t559)).setCell ⟨gb564,2,none⟩ (.int .i64 t560)).setCell ⟨gb564,3,none⟩ (.int .i64 t561)).setCell ⟨gb564,4,none⟩ (.int .i64 t562))=w59
    have n0_:Aside0 (w59.heap[gb553]? =some (.cells #[.slice A1_0 l1_0.length c1_0,.int .i64 a1_1,.int .i64 a1_2] 72 (0,0))):=⟨by rw [←hw_];exact zPq⟩
    have n1_:Aside0 (w59.heap[gb554]? =some (.cells #[.int .i64 0,.int .i64 0,.int .i64 0,.int .i64 0,.int .i64 0] 74 (0,0))):=⟨by rw [←hw_];exact zPq⟩
    have n2_:Aside0 (w59.heap[gb564]? =some (.cells #[.int .i64 t558,.int .i64 t559,.int .i64 t560,.int .i64 t561,.int .i64 t562] 57 (0,0))):=⟨by rw [←hw_];exact zp5 (zK BK564.1)⟩
    have n3_:Aside0 (Below w.heap.size w w59):=⟨by rw [←hw_];exact zB3⟩
    (try clear BK553)
    (try clear BK554)
    (try clear BK564)
    (try clear HB)
    clear hw_
    have BK553:=n0_
    have BK554:=n1_
    have BK564:=n2_
    have HB:=n3_
    clear n0_ n1_ n2_ n3_
    replace BK553:=zM (blk_drew BK553.1)
    replace BK554:=zM (blk_drew BK554.1)
    replace BK564:=zM (blk_drew BK564.1)
    replace HB:=zM (below_drew1 HB.1)
    refine start_ (n:=10) (S:=fun w'=>w'.cell? ⟨gb553,0,none⟩=some (.slice A1_0 l1_0.length c1_0)∧w'.cell? ⟨gb553,1,none⟩=some (.int .i64 a1_1)∧w'.cell? ⟨gb553,2,none⟩=some (.int .i64 a1_2)∧w'.cell? ⟨gb564,0,none⟩=some (.int .i64 t558)∧w'.cell? ⟨gb564,1,none⟩=some (.int .i64 t559)∧w'.cell? ⟨gb564,2,none⟩=some (.int .i64 t560)∧w'.cell? ⟨gb564,3,none⟩=some (.int .i64 t561)∧w'.cell? ⟨gb564,4,none⟩=some (.int .i64 t562)) (ds:=[]) zq14_0 (by kernel_rfl) rfl rfl ⟨(blk_cell BK553.1 0).trans rfl,(blk_cell BK553.1 1).trans rfl,(blk_cell BK553.1 2).trans rfl,(blk_cell BK564.1 0).trans rfl,(blk_cell BK564.1 1).trans rfl,(blk_cell BK564.1 2).trans rfl,(blk_cell BK564.1 3).trans rfl,(blk_cell BK564.1 4).trans rfl⟩ (fun hHeld=>?_);refine with_tabW spec_EventOf.tab4 spec_EventOf.bits4 (fun HT_ HW_=>?_)
    generalize w59.drew=w60 at BK553 BK554 BK564 HB hHeld ⊢
    refine zPu 0 ?_
    refine zPu 1 ?_
    refine zPu 4 ?_
    refine zTk8 2 hHeld ?_
    refine zTk8 3 hHeld ?_
    refine zTk8 5 hHeld ?_
    refine join_ (σ:=Nat) 1 zq14_7 (fun s_=>[(40,.int .i64 t565),(10,.pointer (some ⟨s_,0,none⟩)),(41,.agg #[.int .i64 a2,.int .i64 a1_1,.int .i64 t565,.int .i64 (-1),.int .i64 (-1)])]) (fun s_ w'=>(w'.cell? ⟨gb553,0,none⟩=some (.slice A1_0 l1_0.length c1_0)∧w'.cell? ⟨gb553,1,none⟩=some (.int .i64 a1_1)∧w'.cell? ⟨gb553,2,none⟩=some (.int .i64 a1_2)∧w'.cell? ⟨gb564,0,none⟩=some (.int .i64 t558)∧w'.cell? ⟨gb564,1,none⟩=some (.int .i64 t559)∧w'.cell? ⟨gb564,2,none⟩=some (.int .i64 t560)∧w'.cell? ⟨gb564,3,none⟩=some (.int .i64 t561)∧w'.cell? ⟨gb564,4,none⟩=some (.int .i64 t562))∧(w'.heap[gb553]? =some (.cells #[.slice A1_0 l1_0.length c1_0,.int .i64 a1_1,.int .i64 a1_2] 72 (0,0)))∧(w'.heap[gb554]? =some (.cells #[.int .i64 0,.int .i64 0,.int .i64 0,.int .i64 0,.int .i64 0] 74 (0,0)))∧(w'.heap[gb564]? =some (.cells #[.int .i64 t558,.int .i64 t559,.int .i64 t560,.int .i64 t561,.int .i64 t562] 57 (0,0)))∧(w'.heap[s_]? =some (.cells #[.int .i64 0,.int .i64 0,.int .i64 0,.int .i64 0,.int .i64 0] 74 (0,0)))∧(w.heap.size≤s_)∧(w.heap.size≤s_)∧(gb553≠s_)∧(s_≠gb553)∧(gb554≠s_)∧(s_≠gb554)∧(gb564≠s_)∧(s_≠gb564)∧(Below w.heap.size w w')) ?_ ?_
    rotate_left
    ·intro hCont
     refine two_ (i:=6) (j:=8) (Ni:=some 40) (Nj:=some 10) zq14_8 zq14_9 rfl rfl rfl rfl (two_of HT_.1 (by kernel_rfl)) (by decide) (by decide) (fun K hK=>?_) (fun K hK=>?_)
     ·refine zGs Try.func109 #[.agg #[.int .i64 t558,.int .i64 t559,.int .i64 t560,.int .i64 t561,.int .i64 t562],.slice A1_0 l1_0.length c1_0] ?_
      with_reducible refine (spec_Target.calls t558 t559 t560 t561 t562 _ _ l1_0 t565 _ ?side1 ?side2 A24.1).mono ?_
      (case side1=>exact zC (Kd.C_below HR1_0.1 HB.1))
      (case side2=>exact HC1_0.1)
      rintro e w61 ⟨rfl,hb⟩
      refine ⟨_,rfl,?_⟩
      replace BK553:=zM (zb BK553.1 hb)
      replace BK554:=zM (zb BK554.1 hb)
      replace BK564:=zM (zb BK564.1 hb)
      replace HB:=zM (below_step zB3 hb)
      refine hK.out _ _ zCs fun hHeld=>?_
      clear hK K
      refine zNo ?_
      refine zPu 7 ?_
      refine zOn 8 (some 10) fun K hK=>?_
      refine zBs 10 74 #[.int .i64 0,.int .i64 0,.int .i64 0,.int .i64 0,.int .i64 0] ?_
      intro gb566 hg w62 hbox hb
      replace BK566:=zM hbox
      replace GW566:=zM (zW hg (below_size zB3))
      replace GE566:=zM (zW hg (below_size zB3))
      replace HB:=zM (below_step zB3 hb)
      replace NB553_566:=zM ((zn BK553.1 hg:gb553≠gb566))
      replace NB566_553:=zM ((zm BK553.1 hg:gb566≠gb553))
      replace BK553:=zM (zb BK553.1 hb)
      replace NB554_566:=zM ((zn BK554.1 hg:gb554≠gb566))
      replace NB566_554:=zM ((zm BK554.1 hg:gb566≠gb554))
      replace BK554:=zM (zb BK554.1 hb)
      replace NB564_566:=zM ((zn BK564.1 hg:gb564≠gb566))
      replace NB566_564:=zM ((zm BK564.1 hg:gb566≠gb564))
      replace BK564:=zM (zb BK564.1 hb)
      refine hK.out _ _ zCs fun hHeld=>?_
      clear hK K
      refine zNo ?_
      exact norm_ zNr (hCont (gb566) _ ⟨hHeld,(zK BK553.1),(zK BK554.1),(zK BK564.1),(zK BK566.1),GW566.1,GE566.1,NB553_566.1,NB566_553.1,NB554_566.1,NB566_554.1,NB564_566.1,NB566_564.1,zB3⟩)
     ·refine zBs 10 74 #[.int .i64 0,.int .i64 0,.int .i64 0,.int .i64 0,.int .i64 0] ?_
      intro gb566 hg w61 hbox hb
      replace BK566:=zM hbox
      replace GW566:=zM (zW hg (below_size zB3))
      replace GE566:=zM (zW hg (below_size zB3))
      replace HB:=zM (below_step zB3 hb)
      replace NB553_566:=zM ((zn BK553.1 hg:gb553≠gb566))
      replace NB566_553:=zM ((zm BK553.1 hg:gb566≠gb553))
      replace BK553:=zM (zb BK553.1 hb)
      replace NB554_566:=zM ((zn BK554.1 hg:gb554≠gb566))
      replace NB566_554:=zM ((zm BK554.1 hg:gb566≠gb554))
      replace BK554:=zM (zb BK554.1 hb)
      replace NB564_566:=zM ((zn BK564.1 hg:gb564≠gb566))
      replace NB566_564:=zM ((zm BK564.1 hg:gb566≠gb564))
      replace BK564:=zM (zb BK564.1 hb)
      refine hK.out _ _ zCs fun hHeld=>?_
      clear hK K
      refine zNo ?_
      refine zOn 6 (some 40) fun K hK=>?_
      refine zGs Try.func109 #[.agg #[.int .i64 t558,.int .i64 t559,.int .i64 t560,.int .i64 t561,.int .i64 t562],.slice A1_0 l1_0.length c1_0] ?_
      with_reducible refine (spec_Target.calls t558 t559 t560 t561 t562 _ _ l1_0 t565 _ ?side1 ?side2 A24.1).mono ?_
      (case side1=>exact zC (Kd.C_below HR1_0.1 HB.1))
      (case side2=>exact HC1_0.1)
      rintro e w62 ⟨rfl,hb⟩
      refine ⟨_,rfl,?_⟩
      replace BK553:=zM (zb BK553.1 hb)
      replace BK554:=zM (zb BK554.1 hb)
      replace BK564:=zM (zb BK564.1 hb)
      replace BK566:=zM (zb BK566.1 hb)
      replace HB:=zM (below_step zB3 hb)
      refine hK.out _ _ zCs fun hHeld=>?_
      clear hK K
      refine zNo ?_
      refine zPu 7 ?_
      exact norm_ zNr (hCont (gb566) _ ⟨hHeld,(zK BK553.1),(zK BK554.1),(zK BK564.1),(zK BK566.1),GW566.1,GE566.1,NB553_566.1,NB566_553.1,NB554_566.1,NB566_554.1,NB564_566.1,NB566_564.1,zB3⟩)
    rintro gb566 w63 ⟨hS_,h0_,h1_,h2_,h3_,h4_,h5_,h6_,h7_,h8_,h9_,h10_,h11_,h12_⟩
    replace BK553:=zM h0_
    replace BK554:=zM h1_
    replace BK564:=zM h2_
    replace BK566:=zM h3_
    replace GW566:=zM h4_
    replace GE566:=zM h5_
    replace NB553_566:=zM h6_
    replace NB566_553:=zM h7_
    replace NB554_566:=zM h8_
    replace NB566_554:=zM h9_
    replace NB564_566:=zM h10_
    replace NB566_564:=zM h11_
    replace HB:=zM h12_
    have hHeld:=hS_
    refine zNp ?_
    refine zOn 9 none fun K hK=>?_
    obtain ⟨hs64,hfs64⟩:=zHs BK566.1 0
    have hns64_0:=NB553_566.1
    have hns64_1:=NB554_566.1
    have hns64_2:=NB564_566.1
    have hms64_0:=NB566_553.1
    have hms64_1:=NB566_554.1
    have hms64_2:=NB566_564.1
    obtain ⟨hs65,hfs65⟩:=zHs BK566.1 1
    have hns65_0:=NB553_566.1
    have hns65_1:=NB554_566.1
    have hns65_2:=NB564_566.1
    have hms65_0:=NB566_553.1
    have hms65_1:=NB566_554.1
    have hms65_2:=NB566_564.1
    obtain ⟨hs66,hfs66⟩:=zHs BK566.1 2
    have hns66_0:=NB553_566.1
    have hns66_1:=NB554_566.1
    have hns66_2:=NB564_566.1
    have hms66_0:=NB566_553.1
    have hms66_1:=NB566_554.1
    have hms66_2:=NB566_564.1
    obtain ⟨hs67,hfs67⟩:=zHs BK566.1 3
    have hns67_0:=NB553_566.1
    have hns67_1:=NB554_566.1
    have hns67_2:=NB564_566.1
    have hms67_0:=NB566_553.1
    have hms67_1:=NB566_554.1
    have hms67_2:=NB566_564.1
    obtain ⟨hs68,hfs68⟩:=zHs BK566.1 4
    have hns68_0:=NB553_566.1
    have hns68_1:=NB554_566.1
    have hns68_2:=NB564_566.1
    have hms68_0:=NB566_553.1
    have hms68_1:=NB566_554.1
    have hms68_2:=NB566_564.1
    refine skip_ (w1:=?_) (by rfl) rfl ?_ ?_
    rotate_left
    ·go_simp
     rfl
    refine hK.out _ _ zCs fun hHeld=>?_
    clear hK K
    refine done_ (done_of HT_.1 (by kernel_rfl)) ?_
    have hnb69:=NB566_553.1
    have hnc69:=NB553_566.1
    have hnb70:=NB566_554.1
    have hnc70:=NB554_566.1
    have hnb71:=NB566_564.1
    have hnc71:=NB564_566.1
    have hcz72:=zc_5 (w:=w63) BK566.1
    try go_wp2
    generalize hw_:(((((w63.setCell ⟨gb566,0,none⟩ (.int .i64 a2)).setCell ⟨gb566,1,none⟩ (.int .i64 a1_1)).setCell ⟨gb566,2,none⟩ (.int .i64 t565)).setCell ⟨gb566,3,none⟩ (.int .i64 (-1))).setCell ⟨gb566,4,none⟩ (.int .i64 (-1)))=w73
    have n0_:Aside0 (w73.heap[gb553]? =some (.cells #[.slice A1_0 l1_0.length c1_0,.int .i64 a1_1,.int .i64 a1_2] 72 (0,0))):=⟨by rw [←hw_];exact zPq⟩
    have n1_:Aside0 (w73.heap[gb554]? =some (.cells #[.int .i64 0,.int .i64 0,.int .i64 0,.int .i64 0,.int .i64 0] 74 (0,0))):=⟨by rw [←hw_];exact zPq⟩
    have n2_:Aside0 (w73.heap[gb564]? =some (.cells #[.int .i64 t558,.int .i64 t559,.int .i64 t560,.int .i64 t561,.int .i64 t562] 57 (0,0))):=⟨by rw [←hw_];exact zPq⟩
    have n3_:Aside0 (w73.heap[gb566]? =some (.cells #[.int .i64 a2,.int .i64 a1_1,.int .i64 t565,.int .i64 (-1),.int .i64 (-1)] 74 (0,0))):=⟨by rw [←hw_];exact zp5 (zK BK566.1)⟩
    have n4_:Aside0 (Below w.heap.size w w73):=⟨by rw [←hw_];exact zB3⟩
    (try clear BK553)
    (try clear BK554)
    (try clear BK564)
    (try clear BK566)
    (try clear HB)
    clear hw_
    have BK553:=n0_
    have BK554:=n1_
    have BK564:=n2_
    have BK566:=n3_
    have HB:=n4_
    clear n0_ n1_ n2_ n3_ n4_
    replace BK553:=zM (blk_drew BK553.1)
    replace BK554:=zM (blk_drew BK554.1)
    replace BK564:=zM (blk_drew BK564.1)
    replace BK566:=zM (blk_drew BK566.1)
    replace HB:=zM (below_drew1 HB.1)
    obtain ⟨p567,q567,ad567,e567,hx567_0⟩:=zRd (Kd.at_int HR0.1 t565)
    have hw567_0:=hx567_0
    obtain rfl:ad557=ad567:=(by injection e567)
    replace hx567_0:=zHx HB.1 hx567_0
    refine start_ (n:=13) (S:=fun w'=>w'.cell? ⟨gb553,0,none⟩=some (.slice A1_0 l1_0.length c1_0)∧w'.cell? ⟨gb553,1,none⟩=some (.int .i64 a1_1)∧w'.cell? ⟨gb553,2,none⟩=some (.int .i64 a1_2)∧w'.cell? ⟨gb564,0,none⟩=some (.int .i64 t558)∧w'.cell? ⟨gb564,1,none⟩=some (.int .i64 t559)∧w'.cell? ⟨gb564,2,none⟩=some (.int .i64 t560)∧w'.cell? ⟨gb564,3,none⟩=some (.int .i64 t561)∧w'.cell? ⟨gb564,4,none⟩=some (.int .i64 t562)∧w'.cell? ⟨gb566,0,none⟩=some (.int .i64 a2)∧w'.cell? ⟨gb566,1,none⟩=some (.int .i64 a1_1)∧w'.cell? ⟨gb566,2,none⟩=some (.int .i64 t565)∧w'.cell? ⟨gb566,3,none⟩=some (.int .i64 (-1))∧w'.cell? ⟨gb566,4,none⟩=some (.int .i64 (-1))∧w'.cell? (ad557.add (t565).toNat)=some (.int .i64 (rd l0 t565))) (ds:=[12]) zq14_13 (by kernel_rfl) rfl rfl ⟨(blk_cell BK553.1 0).trans rfl,(blk_cell BK553.1 1).trans rfl,(blk_cell BK553.1 2).trans rfl,(blk_cell BK564.1 0).trans rfl,(blk_cell BK564.1 1).trans rfl,(blk_cell BK564.1 2).trans rfl,(blk_cell BK564.1 3).trans rfl,(blk_cell BK564.1 4).trans rfl,(blk_cell BK566.1 0).trans rfl,(blk_cell BK566.1 1).trans rfl,(blk_cell BK566.1 2).trans rfl,(blk_cell BK566.1 3).trans rfl,(blk_cell BK566.1 4).trans rfl,((HB.1.cell (World.block_lt_of_cell? w _ hw567_0)).trans hw567_0)⟩ (fun hHeld=>?_);refine with_tabW spec_EventOf.tab7 spec_EventOf.bits7 (fun HT_ HW_=>?_)
    generalize w73.drew=w74 at BK553 BK554 BK564 BK566 HB hx567_0 hHeld ⊢
    refine zPu 2 ?_
    refine zPu 3 ?_
    refine zTk14 0 hHeld ?_
    refine zTk14 1 hHeld ?_
    refine zTk14 4 hHeld ?_
    refine zPu 5 ?_
    refine zTk14 6 hHeld ?_
    refine zOn 7 (some 54) fun K hK=>?_
    refine zGs Try.func110 #[.agg #[.slice A1_0 l1_0.length c1_0,.int .i64 a1_1,.int .i64 a1_2],.agg #[.int .i64 t558,.int .i64 t559,.int .i64 t560,.int .i64 t561,.int .i64 t562],.int .i64 (rd l0 t565)] ?_
    with_reducible refine (spec_Work.calls kj3 _ _ l1_0 a1_1 a1_2 t558 t559 t560 t561 t562 (rd l0 t565) t568 t571 t572 t573 _ ?side1 ?side2 A50.1).mono ?_
    (case side1=>exact zC (Kd.C_below HR1_0.1 HB.1))
    (case side2=>exact HC1_0.1)
    rintro e w75 ⟨v569,rfl,ho0,hb⟩
    refine ⟨_,rfl,?_⟩
    have HO570:=zM (Kd.R_lower ho0 (below_size zB3))
    replace BK553:=zM (zb BK553.1 hb)
    replace BK554:=zM (zb BK554.1 hb)
    replace BK564:=zM (zb BK564.1 hb)
    replace BK566:=zM (zb BK566.1 hb)
    replace HB:=zM (below_step zB3 hb)
    (try clear ho0)
    refine hK.out _ _ ⟨(blk_cell BK553.1 0).trans rfl,(blk_cell BK553.1 1).trans rfl,(blk_cell BK553.1 2).trans rfl,(blk_cell BK564.1 0).trans rfl,(blk_cell BK564.1 1).trans rfl,(blk_cell BK564.1 2).trans rfl,(blk_cell BK564.1 3).trans rfl,(blk_cell BK564.1 4).trans rfl,(blk_cell BK566.1 0).trans rfl,(blk_cell BK566.1 1).trans rfl,(blk_cell BK566.1 2).trans rfl,(blk_cell BK566.1 3).trans rfl,(blk_cell BK566.1 4).trans rfl,((HB.1.cell (World.block_lt_of_cell? w _ hw567_0)).trans hw567_0)⟩ (fun hHeld=>?_)
    clear hK K
    refine zNo ?_
    refine zPu 8 ?_
    refine zPu 9 ?_
    refine zPu 10 ?_
    refine zPu 11 ?_
    refine last_ (i:=12) (N:=none) zq14_26 rfl rfl (one_of HT_.1 (by kernel_rfl)) (by decide) (fun K hK=>?_)
    obtain ⟨hs76,hfs76⟩:=zHs BK566.1 4
    have hns76_0:=NB553_566.1
    have hns76_1:=NB554_566.1
    have hns76_2:=NB564_566.1
    have hms76_0:=NB566_553.1
    have hms76_1:=NB566_554.1
    have hms76_2:=NB566_564.1
    refine skip_ (w1:=?_) (by rfl) rfl ?_ ?_
    rotate_left
    ·go_simp
     rfl
    refine hK.out _ _ ?_
    clear hK K
    refine done_ (done_of HT_.1 (by kernel_rfl)) ?_
    have hcz77:=zc_5 (w:=w75) BK564.1
    have hcz78:=zc_5 (w:=w75) BK566.1
    have hcz79:=zc_5 (w:=w75) BK554.1
    try go_wp2
    refine bodyPost_ret (results_ct rfl _ _ gb554 74 #[.int .i64 a2,.int .i64 a1_1,.int .i64 t565,.int .i64 (-1),.int .i64 t573] (0,0) _ rfl zPq Try.underlying74 rfl (by kernel_rfl)) rfl ?_
    exact ⟨zE,zB3⟩
   rw [if_neg c51] at H
   have c51b0:(t558 == 5)=false:=beq_eq_false_iff_ne.mpr c51
   have c51b1:(t558 != 5)=true:=bne_iff_ne.mpr c51
   simp only [Option.some.injEq,Prod.mk.injEq] at H
   obtain ⟨rfl,rfl,rfl,rfl,rfl,rfl⟩:=H
   have hnb80:=NB553_554.1
   have hnc80:=NB554_553.1
   have hcz81:=zc_3 (w:=wc) BK553.1
   obtain ⟨p557,q557,ad557,e557,hx557_0⟩:=zRd (Kd.at_int HR0.1 a1_1)
   cases e557
   replace hx557_0:=zHx HB.1 hx557_0
   try go_wp2_with (first|((with_reducible refine zG Try.func108 31 #[.int .i64 (rd l0 a1_1)] ?_);(with_reducible refine (spec_Decode.calls (rd l0 a1_1) t558 t559 t560 t561 t562 t563 _ A23.1).mono ?_);rintro e w82 ⟨rfl,hb⟩;refine ⟨_,rfl,?_⟩;replace BK553:=zM (zb BK553.1 hb);replace BK554:=zM (zb BK554.1 hb);replace HB:=zM (below_step zB3 hb);clear hb)|((with_reducible refine zBx 8 57 #[.int .i64 0,.int .i64 0,.int .i64 0,.int .i64 0,.int .i64 0] ?_);intro gb564 hg w83 hbox hb;have BK564:=zM hbox;have GW564:=zM (zW hg (below_size zB3));have GE564:=zM (zW hg (below_size zB3));replace HB:=zM (below_step zB3 hb);have NB553_564:=zM ((zn BK553.1 hg:gb553≠gb564));have NB564_553:=zM ((zm BK553.1 hg:gb564≠gb553));replace BK553:=zM (zb BK553.1 hb);have NB554_564:=zM ((zn BK554.1 hg:gb554≠gb564));have NB564_554:=zM ((zm BK554.1 hg:gb564≠gb554));replace BK554:=zM (zb BK554.1 hb);clear hb hbox hg;have hnb84:=NB564_553.1;have hnc84:=NB553_564.1;have hnb85:=NB564_554.1;have hnc85:=NB554_564.1;have hcz86:=zc_5 (w:=w83) BK564.1))
   generalize hw_:(((((w83.setCell ⟨gb564,0,none⟩ (.int .i64 t558)).setCell ⟨gb564,1,none⟩ (.int .i64 t559)).setCell ⟨gb564,2,none⟩ (.int .i64 t560)).setCell ⟨gb564,3,none⟩ (.int .i64 t561)).setCell ⟨gb564,4,none⟩ (.int .i64 t562))=w87
   have n0_:Aside0 (w87.heap[gb553]? =some (.cells #[.slice A1_0 l1_0.length c1_0,.int .i64 a1_1,.int .i64 a1_2] 72 (0,0))):=⟨by rw [←hw_];exact zPq⟩
   have n1_:Aside0 (w87.heap[gb554]? =some (.cells #[.int .i64 0,.int .i64 0,.int .i64 0,.int .i64 0,.int .i64 0] 74 (0,0))):=⟨by rw [←hw_];exact zPq⟩
   have n2_:Aside0 (w87.heap[gb564]? =some (.cells #[.int .i64 t558,.int .i64 t559,.int .i64 t560,.int .i64 t561,.int .i64 t562] 57 (0,0))):=⟨by rw [←hw_];exact zp5 (zK BK564.1)⟩
   have n3_:Aside0 (Below w.heap.size w w87):=⟨by rw [←hw_];exact zB3⟩
   (try clear BK553)
   (try clear BK554)
   (try clear BK564)
   (try clear HB)
   clear hw_
   have BK553:=n0_
   have BK554:=n1_
   have BK564:=n2_
   have HB:=n3_
   clear n0_ n1_ n2_ n3_
   replace BK553:=zM (blk_drew BK553.1)
   replace BK554:=zM (blk_drew BK554.1)
   replace BK564:=zM (blk_drew BK564.1)
   replace HB:=zM (below_drew1 HB.1)
   refine start_ (n:=10) (S:=fun w'=>w'.cell? ⟨gb553,0,none⟩=some (.slice A1_0 l1_0.length c1_0)∧w'.cell? ⟨gb553,1,none⟩=some (.int .i64 a1_1)∧w'.cell? ⟨gb553,2,none⟩=some (.int .i64 a1_2)∧w'.cell? ⟨gb564,0,none⟩=some (.int .i64 t558)∧w'.cell? ⟨gb564,1,none⟩=some (.int .i64 t559)∧w'.cell? ⟨gb564,2,none⟩=some (.int .i64 t560)∧w'.cell? ⟨gb564,3,none⟩=some (.int .i64 t561)∧w'.cell? ⟨gb564,4,none⟩=some (.int .i64 t562)) (ds:=[]) zq14_0 (by kernel_rfl) rfl rfl ⟨(blk_cell BK553.1 0).trans rfl,(blk_cell BK553.1 1).trans rfl,(blk_cell BK553.1 2).trans rfl,(blk_cell BK564.1 0).trans rfl,(blk_cell BK564.1 1).trans rfl,(blk_cell BK564.1 2).trans rfl,(blk_cell BK564.1 3).trans rfl,(blk_cell BK564.1 4).trans rfl⟩ (fun hHeld=>?_);refine with_tabW spec_EventOf.tab4 spec_EventOf.bits4 (fun HT_ HW_=>?_)
   generalize w87.drew=w88 at BK553 BK554 BK564 HB hHeld ⊢
   refine zPu 0 ?_
   refine zPu 1 ?_
   refine zPu 4 ?_
   refine zTk8 2 hHeld ?_
   refine zTk8 3 hHeld ?_
   refine zTk8 5 hHeld ?_
   refine join_ (σ:=Nat) 1 zq14_7 (fun s_=>[(40,.int .i64 t565),(10,.pointer (some ⟨s_,0,none⟩)),(41,.agg #[.int .i64 a2,.int .i64 a1_1,.int .i64 t565,.int .i64 (-1),.int .i64 (-1)])]) (fun s_ w'=>(w'.cell? ⟨gb553,0,none⟩=some (.slice A1_0 l1_0.length c1_0)∧w'.cell? ⟨gb553,1,none⟩=some (.int .i64 a1_1)∧w'.cell? ⟨gb553,2,none⟩=some (.int .i64 a1_2)∧w'.cell? ⟨gb564,0,none⟩=some (.int .i64 t558)∧w'.cell? ⟨gb564,1,none⟩=some (.int .i64 t559)∧w'.cell? ⟨gb564,2,none⟩=some (.int .i64 t560)∧w'.cell? ⟨gb564,3,none⟩=some (.int .i64 t561)∧w'.cell? ⟨gb564,4,none⟩=some (.int .i64 t562))∧(w'.heap[gb553]? =some (.cells #[.slice A1_0 l1_0.length c1_0,.int .i64 a1_1,.int .i64 a1_2] 72 (0,0)))∧(w'.heap[gb554]? =some (.cells #[.int .i64 0,.int .i64 0,.int .i64 0,.int .i64 0,.int .i64 0] 74 (0,0)))∧(w'.heap[gb564]? =some (.cells #[.int .i64 t558,.int .i64 t559,.int .i64 t560,.int .i64 t561,.int .i64 t562] 57 (0,0)))∧(w'.heap[s_]? =some (.cells #[.int .i64 0,.int .i64 0,.int .i64 0,.int .i64 0,.int .i64 0] 74 (0,0)))∧(w.heap.size≤s_)∧(w.heap.size≤s_)∧(gb553≠s_)∧(s_≠gb553)∧(gb554≠s_)∧(s_≠gb554)∧(gb564≠s_)∧(s_≠gb564)∧(Below w.heap.size w w')) ?_ ?_
   rotate_left
   ·intro hCont
    refine two_ (i:=6) (j:=8) (Ni:=some 40) (Nj:=some 10) zq14_8 zq14_9 rfl rfl rfl rfl (two_of HT_.1 (by kernel_rfl)) (by decide) (by decide) (fun K hK=>?_) (fun K hK=>?_)
    ·refine zGs Try.func109 #[.agg #[.int .i64 t558,.int .i64 t559,.int .i64 t560,.int .i64 t561,.int .i64 t562],.slice A1_0 l1_0.length c1_0] ?_
     with_reducible refine (spec_Target.calls t558 t559 t560 t561 t562 _ _ l1_0 t565 _ ?side1 ?side2 A24.1).mono ?_
     (case side1=>exact zC (Kd.C_below HR1_0.1 HB.1))
     (case side2=>exact HC1_0.1)
     rintro e w89 ⟨rfl,hb⟩
     refine ⟨_,rfl,?_⟩
     replace BK553:=zM (zb BK553.1 hb)
     replace BK554:=zM (zb BK554.1 hb)
     replace BK564:=zM (zb BK564.1 hb)
     replace HB:=zM (below_step zB3 hb)
     refine hK.out _ _ zCs fun hHeld=>?_
     clear hK K
     refine zNo ?_
     refine zPu 7 ?_
     refine zOn 8 (some 10) fun K hK=>?_
     refine zBs 10 74 #[.int .i64 0,.int .i64 0,.int .i64 0,.int .i64 0,.int .i64 0] ?_
     intro gb566 hg w90 hbox hb
     replace BK566:=zM hbox
     replace GW566:=zM (zW hg (below_size zB3))
     replace GE566:=zM (zW hg (below_size zB3))
     replace HB:=zM (below_step zB3 hb)
     replace NB553_566:=zM ((zn BK553.1 hg:gb553≠gb566))
     replace NB566_553:=zM ((zm BK553.1 hg:gb566≠gb553))
     replace BK553:=zM (zb BK553.1 hb)
     replace NB554_566:=zM ((zn BK554.1 hg:gb554≠gb566))
     replace NB566_554:=zM ((zm BK554.1 hg:gb566≠gb554))
     replace BK554:=zM (zb BK554.1 hb)
     replace NB564_566:=zM ((zn BK564.1 hg:gb564≠gb566))
     replace NB566_564:=zM ((zm BK564.1 hg:gb566≠gb564))
     replace BK564:=zM (zb BK564.1 hb)
     refine hK.out _ _ zCs fun hHeld=>?_
     clear hK K
     refine zNo ?_
     exact norm_ zNr (hCont (gb566) _ ⟨hHeld,(zK BK553.1),(zK BK554.1),(zK BK564.1),(zK BK566.1),GW566.1,GE566.1,NB553_566.1,NB566_553.1,NB554_566.1,NB566_554.1,NB564_566.1,NB566_564.1,zB3⟩)
    ·refine zBs 10 74 #[.int .i64 0,.int .i64 0,.int .i64 0,.int .i64 0,.int .i64 0] ?_
     intro gb566 hg w89 hbox hb
     replace BK566:=zM hbox
     replace GW566:=zM (zW hg (below_size zB3))
     replace GE566:=zM (zW hg (below_size zB3))
     replace HB:=zM (below_step zB3 hb)
     replace NB553_566:=zM ((zn BK553.1 hg:gb553≠gb566))
     replace NB566_553:=zM ((zm BK553.1 hg:gb566≠gb553))
     replace BK553:=zM (zb BK553.1 hb)
     replace NB554_566:=zM ((zn BK554.1 hg:gb554≠gb566))
     replace NB566_554:=zM ((zm BK554.1 hg:gb566≠gb554))
     replace BK554:=zM (zb BK554.1 hb)
     replace NB564_566:=zM ((zn BK564.1 hg:gb564≠gb566))
     replace NB566_564:=zM ((zm BK564.1 hg:gb566≠gb564))
     replace BK564:=zM (zb BK564.1 hb)
     refine hK.out _ _ zCs fun hHeld=>?_
     clear hK K
     refine zNo ?_
     refine zOn 6 (some 40) fun K hK=>?_
     refine zGs Try.func109 #[.agg #[.int .i64 t558,.int .i64 t559,.int .i64 t560,.int .i64 t561,.int .i64 t562],.slice A1_0 l1_0.length c1_0] ?_
     with_reducible refine (spec_Target.calls t558 t559 t560 t561 t562 _ _ l1_0 t565 _ ?side1 ?side2 A24.1).mono ?_
     (case side1=>exact zC (Kd.C_below HR1_0.1 HB.1))
     (case side2=>exact HC1_0.1)
     rintro e w90 ⟨rfl,hb⟩
     refine ⟨_,rfl,?_⟩
     replace BK553:=zM (zb BK553.1 hb)
     replace BK554:=zM (zb BK554.1 hb)
     replace BK564:=zM (zb BK564.1 hb)
     replace BK566:=zM (zb BK566.1 hb)
     replace HB:=zM (below_step zB3 hb)
     refine hK.out _ _ zCs fun hHeld=>?_
     clear hK K
     refine zNo ?_
     refine zPu 7 ?_
     exact norm_ zNr (hCont (gb566) _ ⟨hHeld,(zK BK553.1),(zK BK554.1),(zK BK564.1),(zK BK566.1),GW566.1,GE566.1,NB553_566.1,NB566_553.1,NB554_566.1,NB566_554.1,NB564_566.1,NB566_564.1,zB3⟩)
   rintro gb566 w91 ⟨hS_,h0_,h1_,h2_,h3_,h4_,h5_,h6_,h7_,h8_,h9_,h10_,h11_,h12_⟩
   replace BK553:=zM h0_
   replace BK554:=zM h1_
   replace BK564:=zM h2_
   replace BK566:=zM h3_
   replace GW566:=zM h4_
   replace GE566:=zM h5_
   replace NB553_566:=zM h6_
   replace NB566_553:=zM h7_
   replace NB554_566:=zM h8_
   replace NB566_554:=zM h9_
   replace NB564_566:=zM h10_
   replace NB566_564:=zM h11_
   replace HB:=zM h12_
   have hHeld:=hS_
   refine zNp ?_
   refine zOn 9 none fun K hK=>?_
   obtain ⟨hs92,hfs92⟩:=zHs BK566.1 0
   have hns92_0:=NB553_566.1
   have hns92_1:=NB554_566.1
   have hns92_2:=NB564_566.1
   have hms92_0:=NB566_553.1
   have hms92_1:=NB566_554.1
   have hms92_2:=NB566_564.1
   obtain ⟨hs93,hfs93⟩:=zHs BK566.1 1
   have hns93_0:=NB553_566.1
   have hns93_1:=NB554_566.1
   have hns93_2:=NB564_566.1
   have hms93_0:=NB566_553.1
   have hms93_1:=NB566_554.1
   have hms93_2:=NB566_564.1
   obtain ⟨hs94,hfs94⟩:=zHs BK566.1 2
   have hns94_0:=NB553_566.1
   have hns94_1:=NB554_566.1
   have hns94_2:=NB564_566.1
   have hms94_0:=NB566_553.1
   have hms94_1:=NB566_554.1
   have hms94_2:=NB566_564.1
   obtain ⟨hs95,hfs95⟩:=zHs BK566.1 3
   have hns95_0:=NB553_566.1
   have hns95_1:=NB554_566.1
   have hns95_2:=NB564_566.1
   have hms95_0:=NB566_553.1
   have hms95_1:=NB566_554.1
   have hms95_2:=NB566_564.1
   obtain ⟨hs96,hfs96⟩:=zHs BK566.1 4
   have hns96_0:=NB553_566.1
   have hns96_1:=NB554_566.1
   have hns96_2:=NB564_566.1
   have hms96_0:=NB566_553.1
   have hms96_1:=NB566_554.1
   have hms96_2:=NB566_564.1
   refine skip_ (w1:=?_) (by rfl) rfl ?_ ?_
   rotate_left
   ·go_simp
    rfl
   refine hK.out _ _ zCs fun hHeld=>?_
   clear hK K
   refine done_ (done_of HT_.1 (by kernel_rfl)) ?_
   have hnb97:=NB566_553.1
   have hnc97:=NB553_566.1
   have hnb98:=NB566_554.1
   have hnc98:=NB554_566.1
   have hnb99:=NB566_564.1
   have hnc99:=NB564_566.1
   have hcz100:=zc_5 (w:=w91) BK566.1
   try go_wp2
   generalize hw_:(((((w91.setCell ⟨gb566,0,none⟩ (.int .i64 a2)).setCell ⟨gb566,1,none⟩ (.int .i64 a1_1)).setCell ⟨gb566,2,none⟩ (.int .i64 t565)).setCell ⟨gb566,3,none⟩ (.int .i64 (-1))).setCell ⟨gb566,4,none⟩ (.int .i64 (-1)))=w101
   have n0_:Aside0 (w101.heap[gb553]? =some (.cells #[.slice A1_0 l1_0.length c1_0,.int .i64 a1_1,.int .i64 a1_2] 72 (0,0))):=⟨by rw [←hw_];exact zPq⟩
   have n1_:Aside0 (w101.heap[gb554]? =some (.cells #[.int .i64 0,.int .i64 0,.int .i64 0,.int .i64 0,.int .i64 0] 74 (0,0))):=⟨by rw [←hw_];exact zPq⟩
   have n2_:Aside0 (w101.heap[gb564]? =some (.cells #[.int .i64 t558,.int .i64 t559,.int .i64 t560,.int .i64 t561,.int .i64 t562] 57 (0,0))):=⟨by rw [←hw_];exact zPq⟩
   have n3_:Aside0 (w101.heap[gb566]? =some (.cells #[.int .i64 a2,.int .i64 a1_1,.int .i64 t565,.int .i64 (-1),.int .i64 (-1)] 74 (0,0))):=⟨by rw [←hw_];exact zp5 (zK BK566.1)⟩
   have n4_:Aside0 (Below w.heap.size w w101):=⟨by rw [←hw_];exact zB3⟩
   (try clear BK553)
   (try clear BK554)
   (try clear BK564)
   (try clear BK566)
   (try clear HB)
   clear hw_
   have BK553:=n0_
   have BK554:=n1_
   have BK564:=n2_
   have BK566:=n3_
   have HB:=n4_
   clear n0_ n1_ n2_ n3_ n4_
   replace BK553:=zM (blk_drew BK553.1)
   replace BK554:=zM (blk_drew BK554.1)
   replace BK564:=zM (blk_drew BK564.1)
   replace BK566:=zM (blk_drew BK566.1)
   replace HB:=zM (below_drew1 HB.1)
   obtain ⟨p567,q567,ad567,e567,hx567_0⟩:=zRd (Kd.at_int HR0.1 t565)
   have hw567_0:=hx567_0
   obtain rfl:ad557=ad567:=(by injection e567)
   replace hx567_0:=zHx HB.1 hx567_0
   refine start_ (n:=13) (S:=fun w'=>w'.cell? ⟨gb553,0,none⟩=some (.slice A1_0 l1_0.length c1_0)∧w'.cell? ⟨gb553,1,none⟩=some (.int .i64 a1_1)∧w'.cell? ⟨gb553,2,none⟩=some (.int .i64 a1_2)∧w'.cell? ⟨gb564,0,none⟩=some (.int .i64 t558)∧w'.cell? ⟨gb564,1,none⟩=some (.int .i64 t559)∧w'.cell? ⟨gb564,2,none⟩=some (.int .i64 t560)∧w'.cell? ⟨gb564,3,none⟩=some (.int .i64 t561)∧w'.cell? ⟨gb564,4,none⟩=some (.int .i64 t562)∧w'.cell? ⟨gb566,0,none⟩=some (.int .i64 a2)∧w'.cell? ⟨gb566,1,none⟩=some (.int .i64 a1_1)∧w'.cell? ⟨gb566,2,none⟩=some (.int .i64 t565)∧w'.cell? ⟨gb566,3,none⟩=some (.int .i64 (-1))∧w'.cell? ⟨gb566,4,none⟩=some (.int .i64 (-1))∧w'.cell? (ad557.add (t565).toNat)=some (.int .i64 (rd l0 t565))) (ds:=[12]) zq14_13 (by kernel_rfl) rfl rfl ⟨(blk_cell BK553.1 0).trans rfl,(blk_cell BK553.1 1).trans rfl,(blk_cell BK553.1 2).trans rfl,(blk_cell BK564.1 0).trans rfl,(blk_cell BK564.1 1).trans rfl,(blk_cell BK564.1 2).trans rfl,(blk_cell BK564.1 3).trans rfl,(blk_cell BK564.1 4).trans rfl,(blk_cell BK566.1 0).trans rfl,(blk_cell BK566.1 1).trans rfl,(blk_cell BK566.1 2).trans rfl,(blk_cell BK566.1 3).trans rfl,(blk_cell BK566.1 4).trans rfl,((HB.1.cell (World.block_lt_of_cell? w _ hw567_0)).trans hw567_0)⟩ (fun hHeld=>?_);refine with_tabW spec_EventOf.tab7 spec_EventOf.bits7 (fun HT_ HW_=>?_)
   generalize w101.drew=w102 at BK553 BK554 BK564 BK566 HB hx567_0 hHeld ⊢
   refine zPu 2 ?_
   refine zPu 3 ?_
   refine zTk14 0 hHeld ?_
   refine zTk14 1 hHeld ?_
   refine zTk14 4 hHeld ?_
   refine zPu 5 ?_
   refine zTk14 6 hHeld ?_
   refine zOn 7 (some 54) fun K hK=>?_
   refine zGs Try.func110 #[.agg #[.slice A1_0 l1_0.length c1_0,.int .i64 a1_1,.int .i64 a1_2],.agg #[.int .i64 t558,.int .i64 t559,.int .i64 t560,.int .i64 t561,.int .i64 t562],.int .i64 (rd l0 t565)] ?_
   with_reducible refine (spec_Work.calls kj3 _ _ l1_0 a1_1 a1_2 t558 t559 t560 t561 t562 (rd l0 t565) t568 t571 t572 t573 _ ?side1 ?side2 A50.1).mono ?_
   (case side1=>exact zC (Kd.C_below HR1_0.1 HB.1))
   (case side2=>exact HC1_0.1)
   rintro e w103 ⟨v569,rfl,ho0,hb⟩
   refine ⟨_,rfl,?_⟩
   have HO570:=zM (Kd.R_lower ho0 (below_size zB3))
   replace BK553:=zM (zb BK553.1 hb)
   replace BK554:=zM (zb BK554.1 hb)
   replace BK564:=zM (zb BK564.1 hb)
   replace BK566:=zM (zb BK566.1 hb)
   replace HB:=zM (below_step zB3 hb)
   (try clear ho0)
   refine hK.out _ _ ⟨(blk_cell BK553.1 0).trans rfl,(blk_cell BK553.1 1).trans rfl,(blk_cell BK553.1 2).trans rfl,(blk_cell BK564.1 0).trans rfl,(blk_cell BK564.1 1).trans rfl,(blk_cell BK564.1 2).trans rfl,(blk_cell BK564.1 3).trans rfl,(blk_cell BK564.1 4).trans rfl,(blk_cell BK566.1 0).trans rfl,(blk_cell BK566.1 1).trans rfl,(blk_cell BK566.1 2).trans rfl,(blk_cell BK566.1 3).trans rfl,(blk_cell BK566.1 4).trans rfl,((HB.1.cell (World.block_lt_of_cell? w _ hw567_0)).trans hw567_0)⟩ (fun hHeld=>?_)
   clear hK K
   refine zNo ?_
   refine zPu 8 ?_
   refine zPu 9 ?_
   refine zPu 10 ?_
   refine zPu 11 ?_
   refine last_ (i:=12) (N:=none) zq14_26 rfl rfl (one_of HT_.1 (by kernel_rfl)) (by decide) (fun K hK=>?_)
   obtain ⟨hs104,hfs104⟩:=zHs BK566.1 4
   have hns104_0:=NB553_566.1
   have hns104_1:=NB554_566.1
   have hns104_2:=NB564_566.1
   have hms104_0:=NB566_553.1
   have hms104_1:=NB566_554.1
   have hms104_2:=NB566_564.1
   refine skip_ (w1:=?_) (by rfl) rfl ?_ ?_
   rotate_left
   ·go_simp
    rfl
   refine hK.out _ _ ?_
   clear hK K
   refine done_ (done_of HT_.1 (by kernel_rfl)) ?_
   have hcz105:=zc_5 (w:=w103) BK564.1
   have hcz106:=zc_5 (w:=w103) BK566.1
   obtain ⟨p574,q574,ad574,e574,hx574_0⟩:=zRd (Kd.at_int HR0.1 t565)
   obtain rfl:ad557=ad574:=(by injection e574)
   have hn574_0:ad557.block≠gb566:=Nat.ne_of_lt (Nat.lt_of_lt_of_le (by have:=World.block_lt_of_cell? _ _ hx574_0;first|rwa [add_block] at this|exact this) GW566.1)
   replace hx574_0:=zHx HB.1 hx574_0
   replace hx574_0:=(cell_far (p:=⟨gb566,4,none⟩) (by first|(rw [add_block];exact hn574_0)|(show (Addr.add _ _).block≠_;rw [add_block];exact hn574_0)|exact hn574_0) (.int .i64 t573)).trans hx574_0
   clear hn574_0
   have hcz107:=zc_5 (w:=w103) BK554.1
   try go_wp2
   refine bodyPost_ret (results_ct rfl _ _ gb554 74 #[.int .i64 a2,.int .i64 a1_1,.int .i64 t565,.int .i64 (rd l0 t565),.int .i64 t573] (0,0) _ rfl zPq Try.underlying74 rfl (by kernel_rfl)) rfl ?_
   exact ⟨zE,zB3⟩

end Go.Proofs.Ytaakcbgpmabaaaa.PFnSeen
