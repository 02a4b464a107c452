-- made by wip/tools/myprint.py out of the seat's translation
import Derived.Test.YtpcgecacaemalaaPFnStopsx0
import Derived.Test.YtpcgecacaemalaaPFnStopsx2
import Derived.Test.YtpcgecacaemalaaPFnStopsx4
namespace Go.Proofs.Ytpcgecacaemalaa.PFnStops
open Go.RowKit Go.Proofs.YtpcgecacaemalaaW.PrintWords Go.Proofs.YtpcgecacaemalaaW.PrintLast Go.Proofs.YtpcgecacaemalaaW.PrintMore
attribute [local go_sem] max2_int min2_int max_two min_two max_three min_three max_four min_four -- for this text's walks alone
set_option linter.unusedVariables false
set_option linter.unusedSimpArgs false
set_option maxHeartbeats 8000000
set_option maxRecDepth 100000

/-! ### spec_InsOk: function 124 -/
def spec_InsOk.f (a0_0:Int) (a0_1:Int) (a0_2:Int) (a0_3:Int) (a0_4:Int):Option (Bool):=(spec_l8Has.f a0_0).bind fun t210=>((spec_l1In.f a0_0 1 10).bind fun t211=>(if t211=true then ((spec_l8Field.f a0_1 3 ((Go.bits .and .i64 t210 1) != 0)).bind fun t212=>(if t212=true then ((spec_l8Field.f a0_2 3 ((Go.bits .and .i64 t210 2) != 0)).bind fun t213=>(if t213=true then ((spec_l8Field.f a0_3 3 ((Go.bits .and .i64 t210 4) != 0)).bind fun t214=>(if t214=true then ((spec_l8Field.f a0_4 63 ((Go.bits .and .i64 t210 8) != 0)).bind fun t215=>(some t215)) else (some false))) else (some false))) else (some false))) else (some false)))
theorem spec_InsOk.calls (a0_0:Int) (a0_1:Int) (a0_2:Int) (a0_3:Int) (a0_4:Int) (r:Bool) (w:World) (h:spec_InsOk.f a0_0 a0_1 a0_2 a0_3 a0_4=some r):
  Calls Try.prog 124 #[.agg #[.int .i64 a0_0,.int .i64 a0_1,.int .i64 a0_2,.int .i64 a0_3,.int .i64 a0_4]] w fun e w'=>e= .returned (.bool r)∧Below w.heap.size w w':=by
 have hu109:=Try.underlying109
 have HB:=zM (Below.refl w.heap.size w)
 unfold spec_InsOk.f at h
 have H:=h
 clear h
 replace H:=zO H
 obtain ⟨t210,A2,H⟩:=H
 replace H:=zO H
 obtain ⟨t211,A3,H⟩:=H
 by_cases c4:t211=true
 rotate_left
 ·replace c4:=Bool.eq_false_iff.mpr c4
  subst c4
  rw [if_neg zF] at H
  obtain rfl:=Option.some.inj H
  go_enter Try.func124,Try.ntmps124
  go_wp2_with (first|((with_reducible refine zBx 1 109 #[.int .i64 a0_0,.int .i64 a0_1,.int .i64 a0_2,.int .i64 a0_3,.int .i64 a0_4] ?_);intro gb209 hg w28 hbox hb;have BK209:=zM hbox;have GW209:=zM (zW hg (below_size zB0));have GE209:=zM (zW hg (below_size zB0));replace HB:=zM (below_step zB0 hb);clear hb hbox hg;have hcz29:=zc_5 (w:=w28) BK209.1)|((with_reducible refine zG Try.func126 6 #[.int .i64 a0_0] ?_);(with_reducible refine (spec_l8Has.calls a0_0 t210 _ A2.1).mono ?_);rintro e w30 ⟨rfl,hb⟩;refine ⟨_,rfl,?_⟩;replace BK209:=zM (zb BK209.1 hb);replace HB:=zM (below_step zB0 hb);clear hb;have hcz31:=zc_5 (w:=w30) BK209.1)|((with_reducible refine zG Try.func68 9 #[.int .i64 a0_0,.int .i64 1,.int .i64 10] ?_);(with_reducible refine (spec_l1In.calls a0_0 1 10 false _ A3.1).mono ?_);rintro e w' ⟨rfl,⟨nd,rfl⟩⟩;refine ⟨_,rfl,?_⟩))
  go_ret
  exact ⟨zE,zB0⟩
 subst c4
 rw [if_pos rfl] at H
 replace H:=zO H
 obtain ⟨t212,A5,H⟩:=H
 by_cases c6:t212=true
 rotate_left
 ·replace c6:=Bool.eq_false_iff.mpr c6
  subst c6
  rw [if_neg zF] at H
  obtain rfl:=Option.some.inj H
  go_enter Try.func124,Try.ntmps124
  go_wp2_with (first|((with_reducible refine zBx 1 109 #[.int .i64 a0_0,.int .i64 a0_1,.int .i64 a0_2,.int .i64 a0_3,.int .i64 a0_4] ?_);intro gb209 hg w24 hbox hb;have BK209:=zM hbox;have GW209:=zM (zW hg (below_size zB0));have GE209:=zM (zW hg (below_size zB0));replace HB:=zM (below_step zB0 hb);clear hb hbox hg;have hcz25:=zc_5 (w:=w24) BK209.1)|((with_reducible refine zG Try.func126 6 #[.int .i64 a0_0] ?_);(with_reducible refine (spec_l8Has.calls a0_0 t210 _ A2.1).mono ?_);rintro e w26 ⟨rfl,hb⟩;refine ⟨_,rfl,?_⟩;replace BK209:=zM (zb BK209.1 hb);replace HB:=zM (below_step zB0 hb);clear hb;have hcz27:=zc_5 (w:=w26) BK209.1)|((with_reducible refine zG Try.func68 9 #[.int .i64 a0_0,.int .i64 1,.int .i64 10] ?_);(with_reducible refine (spec_l1In.calls a0_0 1 10 true _ A3.1).mono ?_);rintro e w' ⟨rfl,⟨nd,rfl⟩⟩;refine ⟨_,rfl,?_⟩)|(go_at_call 129;(with_reducible refine (spec_l8Field.calls a0_1 3 ((Go.bits .and .i64 t210 1) != 0) false _ A5.1).mono ?_);rintro e w' ⟨rfl,⟨nd,rfl⟩⟩))
  go_ret
  exact ⟨zE,zB0⟩
 subst c6
 rw [if_pos rfl] at H
 replace H:=zO H
 obtain ⟨t213,A7,H⟩:=H
 by_cases c8:t213=true
 rotate_left
 ·replace c8:=Bool.eq_false_iff.mpr c8
  subst c8
  rw [if_neg zF] at H
  obtain rfl:=Option.some.inj H
  go_enter Try.func124,Try.ntmps124
  go_wp2_with (first|((with_reducible refine zBx 1 109 #[.int .i64 a0_0,.int .i64 a0_1,.int .i64 a0_2,.int .i64 a0_3,.int .i64 a0_4] ?_);intro gb209 hg w20 hbox hb;have BK209:=zM hbox;have GW209:=zM (zW hg (below_size zB0));have GE209:=zM (zW hg (below_size zB0));replace HB:=zM (below_step zB0 hb);clear hb hbox hg;have hcz21:=zc_5 (w:=w20) BK209.1)|((with_reducible refine zG Try.func126 6 #[.int .i64 a0_0] ?_);(with_reducible refine (spec_l8Has.calls a0_0 t210 _ A2.1).mono ?_);rintro e w22 ⟨rfl,hb⟩;refine ⟨_,rfl,?_⟩;replace BK209:=zM (zb BK209.1 hb);replace HB:=zM (below_step zB0 hb);clear hb;have hcz23:=zc_5 (w:=w22) BK209.1)|((with_reducible refine zG Try.func68 9 #[.int .i64 a0_0,.int .i64 1,.int .i64 10] ?_);(with_reducible refine (spec_l1In.calls a0_0 1 10 true _ A3.1).mono ?_);rintro e w' ⟨rfl,⟨nd,rfl⟩⟩;refine ⟨_,rfl,?_⟩)|(go_at_call 129;(with_reducible refine (spec_l8Field.calls a0_1 3 ((Go.bits .and .i64 t210 1) != 0) true _ A5.1).mono ?_);rintro e w' ⟨rfl,⟨nd,rfl⟩⟩)|(go_at_call 129;(with_reducible refine (spec_l8Field.calls a0_2 3 ((Go.bits .and .i64 t210 2) != 0) false _ A7.1).mono ?_);rintro e w' ⟨rfl,⟨nd,rfl⟩⟩))
  go_ret
  exact ⟨zE,zB0⟩
 subst c8
 rw [if_pos rfl] at H
 replace H:=zO H
 obtain ⟨t214,A9,H⟩:=H
 by_cases c10:t214=true
 rotate_left
 ·replace c10:=Bool.eq_false_iff.mpr c10
  subst c10
  rw [if_neg zF] at H
  obtain rfl:=Option.some.inj H
  go_enter Try.func124,Try.ntmps124
  go_wp2_with (first|((with_reducible refine zBx 1 109 #[.int .i64 a0_0,.int .i64 a0_1,.int .i64 a0_2,.int .i64 a0_3,.int .i64 a0_4] ?_);intro gb209 hg w16 hbox hb;have BK209:=zM hbox;have GW209:=zM (zW hg (below_size zB0));have GE209:=zM (zW hg (below_size zB0));replace HB:=zM (below_step zB0 hb);clear hb hbox hg;have hcz17:=zc_5 (w:=w16) BK209.1)|((with_reducible refine zG Try.func126 6 #[.int .i64 a0_0] ?_);(with_reducible refine (spec_l8Has.calls a0_0 t210 _ A2.1).mono ?_);rintro e w18 ⟨rfl,hb⟩;refine ⟨_,rfl,?_⟩;replace BK209:=zM (zb BK209.1 hb);replace HB:=zM (below_step zB0 hb);clear hb;have hcz19:=zc_5 (w:=w18) BK209.1)|((with_reducible refine zG Try.func68 9 #[.int .i64 a0_0,.int .i64 1,.int .i64 10] ?_);(with_reducible refine (spec_l1In.calls a0_0 1 10 true _ A3.1).mono ?_);rintro e w' ⟨rfl,⟨nd,rfl⟩⟩;refine ⟨_,rfl,?_⟩)|(go_at_call 129;(with_reducible refine (spec_l8Field.calls a0_1 3 ((Go.bits .and .i64 t210 1) != 0) true _ A5.1).mono ?_);rintro e w' ⟨rfl,⟨nd,rfl⟩⟩)|(go_at_call 129;(with_reducible refine (spec_l8Field.calls a0_2 3 ((Go.bits .and .i64 t210 2) != 0) true _ A7.1).mono ?_);rintro e w' ⟨rfl,⟨nd,rfl⟩⟩)|(go_at_call 129;(with_reducible refine (spec_l8Field.calls a0_3 3 ((Go.bits .and .i64 t210 4) != 0) false _ A9.1).mono ?_);rintro e w' ⟨rfl,⟨nd,rfl⟩⟩))
  go_ret
  exact ⟨zE,zB0⟩
 subst c10
 rw [if_pos rfl] at H
 replace H:=zO H
 obtain ⟨t215,A11,H⟩:=H
 obtain rfl:=Option.some.inj H
 go_enter Try.func124,Try.ntmps124
 go_wp2_with (first|((with_reducible refine zBx 1 109 #[.int .i64 a0_0,.int .i64 a0_1,.int .i64 a0_2,.int .i64 a0_3,.int .i64 a0_4] ?_);intro gb209 hg w12 hbox hb;have BK209:=zM hbox;have GW209:=zM (zW hg (below_size zB0));have GE209:=zM (zW hg (below_size zB0));replace HB:=zM (below_step zB0 hb);clear hb hbox hg;have hcz13:=zc_5 (w:=w12) BK209.1)|((with_reducible refine zG Try.func126 6 #[.int .i64 a0_0] ?_);(with_reducible refine (spec_l8Has.calls a0_0 t210 _ A2.1).mono ?_);rintro e w14 ⟨rfl,hb⟩;refine ⟨_,rfl,?_⟩;replace BK209:=zM (zb BK209.1 hb);replace HB:=zM (below_step zB0 hb);clear hb;have hcz15:=zc_5 (w:=w14) BK209.1)|((with_reducible refine zG Try.func68 9 #[.int .i64 a0_0,.int .i64 1,.int .i64 10] ?_);(with_reducible refine (spec_l1In.calls a0_0 1 10 true _ A3.1).mono ?_);rintro e w' ⟨rfl,⟨nd,rfl⟩⟩;refine ⟨_,rfl,?_⟩)|(go_at_call 129;(with_reducible refine (spec_l8Field.calls a0_1 3 ((Go.bits .and .i64 t210 1) != 0) true _ A5.1).mono ?_);rintro e w' ⟨rfl,⟨nd,rfl⟩⟩)|(go_at_call 129;(with_reducible refine (spec_l8Field.calls a0_2 3 ((Go.bits .and .i64 t210 2) != 0) true _ A7.1).mono ?_);rintro e w' ⟨rfl,⟨nd,rfl⟩⟩)|(go_at_call 129;(with_reducible refine (spec_l8Field.calls a0_3 3 ((Go.bits .and .i64 t210 4) != 0) true _ A9.1).mono ?_);rintro e w' ⟨rfl,⟨nd,rfl⟩⟩)|(go_at_call 129;(with_reducible refine (spec_l8Field.calls a0_4 63 ((Go.bits .and .i64 t210 8) != 0) t215 _ A11.1).mono ?_);rintro e w' ⟨rfl,⟨nd,rfl⟩⟩))
 go_ret
 exact ⟨zE,zB0⟩

/-! ### spec_Code: function 114 -/
def spec_Code.f (a0_0:Int) (a0_1:Int) (a0_2:Int) (a0_3:Int) (a0_4:Int):Option (Int×Bool):=(spec_InsOk.f a0_0 a0_1 a0_2 a0_3 a0_4).bind fun t217=>(if t217=true then (some (wrap64 ((wrap64 ((wrap64 ((wrap64 (a0_0+(wrap64 (16*a0_1))))+(wrap64 (64*a0_2))))+(wrap64 (256*a0_3))))+(wrap64 (1024*a0_4))),true)) else (some (0,false)))
theorem spec_Code.calls (a0_0:Int) (a0_1:Int) (a0_2:Int) (a0_3:Int) (a0_4:Int) (r1:Int) (r2:Bool) (w:World) (h:spec_Code.f a0_0 a0_1 a0_2 a0_3 a0_4=some (r1,r2)):
  Calls Try.prog 114 #[.agg #[.int .i64 a0_0,.int .i64 a0_1,.int .i64 a0_2,.int .i64 a0_3,.int .i64 a0_4]] w fun e w'=>e= .returned (.tuple #[.int .i64 r1,.bool r2])∧Below w.heap.size w w':=by
 have hu109:=Try.underlying109
 have HB:=zM (Below.refl w.heap.size w)
 unfold spec_Code.f at h
 have H:=h
 clear h
 replace H:=zO H
 obtain ⟨t217,A2,H⟩:=H
 by_cases c3:t217=true
 rotate_left
 ·replace c3:=Bool.eq_false_iff.mpr c3
  subst c3
  rw [if_neg zF] at H
  simp only [Option.some.injEq,Prod.mk.injEq] at H
  obtain ⟨rfl,rfl⟩:=H
  go_enter Try.func114,Try.ntmps114
  go_wp2_with (first|((with_reducible refine zBx 1 109 #[.int .i64 a0_0,.int .i64 a0_1,.int .i64 a0_2,.int .i64 a0_3,.int .i64 a0_4] ?_);intro gb216 hg w8 hbox hb;have BK216:=zM hbox;have GW216:=zM (zW hg (below_size zB0));have GE216:=zM (zW hg (below_size zB0));replace HB:=zM (below_step zB0 hb);clear hb hbox hg;have hcz9:=zc_5 (w:=w8) BK216.1)|((with_reducible refine zG Try.func124 5 #[.agg #[.int .i64 a0_0,.int .i64 a0_1,.int .i64 a0_2,.int .i64 a0_3,.int .i64 a0_4]] ?_);(with_reducible refine (spec_InsOk.calls a0_0 a0_1 a0_2 a0_3 a0_4 false _ A2.1).mono ?_);rintro e w10 ⟨rfl,hb⟩;refine ⟨_,rfl,?_⟩;replace BK216:=zM (zb BK216.1 hb);replace HB:=zM (below_step zB0 hb);clear hb))
  go_ret2
  exact ⟨zE,zB0⟩
 subst c3
 rw [if_pos rfl] at H
 simp only [Option.some.injEq,Prod.mk.injEq] at H
 obtain ⟨rfl,rfl⟩:=H
 go_enter Try.func114,Try.ntmps114
 go_wp2_with (first|((with_reducible refine zBx 1 109 #[.int .i64 a0_0,.int .i64 a0_1,.int .i64 a0_2,.int .i64 a0_3,.int .i64 a0_4] ?_);intro gb216 hg w4 hbox hb;have BK216:=zM hbox;have GW216:=zM (zW hg (below_size zB0));have GE216:=zM (zW hg (below_size zB0));replace HB:=zM (below_step zB0 hb);clear hb hbox hg;have hcz5:=zc_5 (w:=w4) BK216.1)|((with_reducible refine zG Try.func124 5 #[.agg #[.int .i64 a0_0,.int .i64 a0_1,.int .i64 a0_2,.int .i64 a0_3,.int .i64 a0_4]] ?_);(with_reducible refine (spec_InsOk.calls a0_0 a0_1 a0_2 a0_3 a0_4 true _ A2.1).mono ?_);rintro e w6 ⟨rfl,hb⟩;refine ⟨_,rfl,?_⟩;replace BK216:=zM (zb BK216.1 hb);replace HB:=zM (below_step zB0 hb);clear hb;have hcz7:=zc_5 (w:=w6) BK216.1))
 go_ret2
 exact ⟨zE,zB0⟩

/-! ### spec_l8DrawIns: function 115 -/
mutual
def spec_l8DrawIns.j0:Nat→Int→List Int→Int→Int→Int→Int→Int→Int→Int→Option (Int×Int×Int×Int×Int×Int×Int)
 |0,_,_,_,_,_,_,_,_,_=>none
 |k+1,x4,x1000,x1001,x1002,x226000,x226001,x226002,x226003,x226004=>if (Go.bits .and .i64 x4 2)=0 then (spec_l8DrawIns.j1 k x4 x1000 x1001 x1002 x226000 x226001 x226002 x226003 x226004) else ((spec_l1Below.f x1000 x1001 x1002 4).bind fun bt230=>(spec_l8DrawIns.j1 k x4 x1000 bt230.2.1 bt230.2.2 x226000 x226001 bt230.1 x226003 x226004))
def spec_l8DrawIns.j1:Nat→Int→List Int→Int→Int→Int→Int→Int→Int→Int→Option (Int×Int×Int×Int×Int×Int×Int)
 |0,_,_,_,_,_,_,_,_,_=>none
 |k+1,x4,x1000,x1001,x1002,x226000,x226001,x226002,x226003,x226004=>if (Go.bits .and .i64 x4 4)=0 then (if (Go.bits .and .i64 x4 8)=0 then (some (x226000,x226001,x226002,x226003,x226004,x1001,x1002)) else ((spec_l1PickInt.f x1000 x1001 x1002 (([0,1,2,4,8,9,12,20,23]:List Int))).bind fun bt236=>(some (x226000,x226001,x226002,x226003,bt236.1,bt236.2.1,bt236.2.2)))) else ((spec_l1Below.f x1000 x1001 x1002 4).bind fun bt239=>(if (Go.bits .and .i64 x4 8)=0 then (some (x226000,x226001,x226002,bt239.1,x226004,bt239.2.1,bt239.2.2)) else ((spec_l1PickInt.f x1000 bt239.2.1 bt239.2.2 (([0,1,2,4,8,9,12,20,23]:List Int))).bind fun bt245=>(some (x226000,x226001,x226002,bt239.1,bt245.1,bt245.2.1,bt245.2.2)))))
end
def spec_l8DrawIns.f (k:Nat) (s0_0:List Int) (s0_1:Int) (s0_2:Int):Option (Int×Int×Int×Int×Int×Int×Int):=(spec_l1PickInt.f s0_0 s0_1 s0_2 (([1,1,2,3,3,4,4,5,5,5,6,6,7,8,9,10]:List Int))).bind fun bt222=>((spec_l8Has.f bt222.1).bind fun t226=>(if (Go.bits .and .i64 t226 1)=0 then (spec_l8DrawIns.j0 k t226 s0_0 bt222.2.1 bt222.2.2 bt222.1 0 0 0 0) else ((spec_l1Below.f s0_0 bt222.2.1 bt222.2.2 4).bind fun bt227=>(spec_l8DrawIns.j0 k t226 s0_0 bt227.2.1 bt227.2.2 bt222.1 bt227.1 0 0 0))))
theorem spec_l8DrawIns.mono_l: ∀k,(∀y0 y1 y2 y3 y4 y5 y6 y7 y8,LeO (spec_l8DrawIns.j0 k y0 y1 y2 y3 y4 y5 y6 y7 y8) (spec_l8DrawIns.j0 (k+1) y0 y1 y2 y3 y4 y5 y6 y7 y8))∧(∀y0 y1 y2 y3 y4 y5 y6 y7 y8,LeO (spec_l8DrawIns.j1 k y0 y1 y2 y3 y4 y5 y6 y7 y8) (spec_l8DrawIns.j1 (k+1) y0 y1 y2 y3 y4 y5 y6 y7 y8))
 |0=>⟨fun _ _ _ _ _ _ _ _ _ r h=>by simp [spec_l8DrawIns.j0] at h,fun _ _ _ _ _ _ _ _ _ r h=>by simp [spec_l8DrawIns.j1] at h⟩
 |k+1=>by
  obtain ⟨ih0,ih1⟩:=spec_l8DrawIns.mono_l k
  refine ⟨?_,?_⟩
  ·intros
   unfold spec_l8DrawIns.j0
   exact zL
  ·intros
   unfold spec_l8DrawIns.j1
   exact zL
theorem spec_l8DrawIns.mono: ∀a0 a1 a2 k,LeO (spec_l8DrawIns.f k a0 a1 a2) (spec_l8DrawIns.f (k+1) a0 a1 a2):=by
 intro a0 a1 a2 k
 obtain ⟨ih0,ih1⟩:=spec_l8DrawIns.mono_l k
 unfold spec_l8DrawIns.f
 exact zL
theorem spec_l8DrawIns.calls (k:Nat) (g:Nat) (s0_0:List Int) (s0_1:Int) (s0_2:Int) (r1:Int) (r2:Int) (r3:Int) (r4:Int) (r5:Int) (r6:Int) (r7:Int) (w0 w:World) (hI:IsS106 w0 w g s0_0 s0_1 s0_2) (hB:Below w0.heap.size w0 w) (h:spec_l8DrawIns.f k s0_0 s0_1 s0_2=some (r1,r2,r3,r4,r5,r6,r7)):
  Calls Try.prog 115 #[.pointer (some ⟨g,0,none⟩)] w fun e w'=>e= .returned (.agg #[.int .i64 r1,.int .i64 r2,.int .i64 r3,.int .i64 r4,.int .i64 r5])∧IsS106 w0 w' g s0_0 r6 r7∧Below w0.heap.size w0 w'∧KeepBut w w' g none:=by
 have hu109:=Try.underlying109
 have HI0:=zM hI
 have HK:=zM (KeepBut.refl w g none)
 have HL:=zM hB.size
 clear hI
 have HW0:=zM hB.size
 have HB:=zM hB
 clear hB
 unfold spec_l8DrawIns.f at h
 have H:=h
 clear h
 generalize hy219:((([1,1,2,3,3,4,4,5,5,5,6,6,7,8,9,10]:List Int)):List Int)=y219 at H
 have Ny219:=zM hy219.symm
 clear hy219
 replace H:=zO H
 obtain ⟨⟨t222,t223,t224⟩,A2,H⟩:=H
 try dsimp only at H
 replace H:=zO H
 obtain ⟨t226,A3,H⟩:=H
 have HC4:=zM H
 clear H
 go_enter Try.func115,Try.ntmps115
 go_upto_if 14 with (first|((with_reducible refine zBx 2 109 #[.int .i64 0,.int .i64 0,.int .i64 0,.int .i64 0,.int .i64 0] ?_);intro gb218 hg w5 hbox hb;replace HB:=zM (below_step zB7 hb);have BK218:=zM hbox;have GW218:=zM ((by rw [hg];exact (keep_size (w:=w) (g:=g) (row:=none) zB8):w.heap.size≤gb218));have GE218:=zM ((Nat.le_trans HW0.1 (by rw [hg];exact (keep_size (w:=w) (g:=g) (row:=none) zB8):w.heap.size≤gb218):w0.heap.size≤gb218));replace HK:=zM (KeepBut.trans zB8 (KeepBut.of_below hb g none) (.inl rfl));have NB0_218:=zM ((by rw [hg];exact Nat.ne_of_lt (IsS106.lt (show IsS106 w0 _ g s0_0 s0_1 s0_2 from zB6)):g≠gb218));have NB218_0:=zM ((by rw [hg];exact Nat.ne_of_gt (IsS106.lt (show IsS106 w0 _ g s0_0 s0_1 s0_2 from zB6)):gb218≠g));replace HI0:=zM (IsS106.below zB6 hb);clear hb hbox hg)|((with_reducible refine gate_dst (N:=6) rfl ?_);refine Kd.R_lit (Kd.int .i64) _ 3 ?hg (N:=6) ?hd (xs:=([1,1,2,3,3,4,4,5,5,5,6,6,7,8,9,10]:List Int)) (inner:=[.int .i64 1,.int .i64 1,.int .i64 2,.int .i64 3,.int .i64 3,.int .i64 4,.int .i64 4,.int .i64 5,.int .i64 5,.int .i64 5,.int .i64 6,.int .i64 6,.int .i64 7,.int .i64 8,.int .i64 9,.int .i64 10]) (ok:=fun _=>True) (okp:=fun _=>True) ?hr ?hp (fun _ hk=>hk) trivial (Below.refl _ _) (Nat.le_refl _) (by simp) ?_;(case hd=>rfl);(case hg=>rfl);(case hr=>exact zHH);(case hp=>exact (Reps.one (show Kd.M (Kd.int .i64) _ _ _ 1 [.int .i64 1] from rfl) (Reps.one (show Kd.M (Kd.int .i64) _ _ _ 1 [.int .i64 1] from rfl) (Reps.one (show Kd.M (Kd.int .i64) _ _ _ 2 [.int .i64 2] from rfl) (Reps.one (show Kd.M (Kd.int .i64) _ _ _ 3 [.int .i64 3] from rfl) (Reps.one (show Kd.M (Kd.int .i64) _ _ _ 3 [.int .i64 3] from rfl) (Reps.one (show Kd.M (Kd.int .i64) _ _ _ 4 [.int .i64 4] from rfl) (Reps.one (show Kd.M (Kd.int .i64) _ _ _ 4 [.int .i64 4] from rfl) (Reps.one (show Kd.M (Kd.int .i64) _ _ _ 5 [.int .i64 5] from rfl) (Reps.one (show Kd.M (Kd.int .i64) _ _ _ 5 [.int .i64 5] from rfl) (Reps.one (show Kd.M (Kd.int .i64) _ _ _ 5 [.int .i64 5] from rfl) (Reps.one (show Kd.M (Kd.int .i64) _ _ _ 6 [.int .i64 6] from rfl) (Reps.one (show Kd.M (Kd.int .i64) _ _ _ 6 [.int .i64 6] from rfl) (Reps.one (show Kd.M (Kd.int .i64) _ _ _ 7 [.int .i64 7] from rfl) (Reps.one (show Kd.M (Kd.int .i64) _ _ _ 8 [.int .i64 8] from rfl) (Reps.one (show Kd.M (Kd.int .i64) _ _ _ 9 [.int .i64 9] from rfl) (Reps.one (show Kd.M (Kd.int .i64) _ _ _ 10 [.int .i64 10] from rfl) (Reps.none _ _))))))))))))))))));intro v220 w6 ho7 hb hg_ hnew_;clear hg_ hnew_;(first|rw [←Ny219.1] at ho7|(simp only [Int.reduceToNat] at ho7;rw [←Ny219.1] at ho7));have HO221:=zM (Kd.R_lower ho7 (keep_size (w:=w) (g:=g) (row:=none) zB8));replace BK218:=zM (zb BK218.1 hb);replace HK:=zM (KeepBut.trans zB8 (KeepBut.of_below hb g none) (.inl rfl));replace HB:=zM (below_step zB7 hb);replace HI0:=zM (IsS106.below zB31 hb);clear hb ho7;obtain ⟨Ao8,co8,eo8⟩:=Kd.R_slice HO221.1;subst eo8)|((with_reducible refine zG Try.func91 7 #[.pointer (some ⟨g,0,none⟩),.slice Ao8 y219.length co8] ?_);(with_reducible refine (spec_l1PickInt.calls g s0_0 s0_1 s0_2 _ _ y219 t222 t223 t224 w0 _ ?side1 ?side2 ?side3 ?side4 ?side5 A2.1).mono ?_);(case side1=>exact zB31);(case side2=>exact zB7);(case side3=>exact zC (Kd.R_reads' HO221.1).2.2);(case side4=>exact (Kd.R_reads' HO221.1).2.1);(case side5=>exact far_slice (IsS106.own_ne HI0.1 HO221.1 (by decide)));rintro e w9 ⟨rfl,hi,hb,hk⟩;refine ⟨_,rfl,?_⟩;replace BK218:=zM (zh hk BK218.1 NB218_0.1);replace HO221:=zM (Kd.R_mono (Kd.R_keep (IsS106.apart (show IsS106 w0 _ g s0_0 s0_1 s0_2 from zB31) (zR HO221.1) (by decide)) hk (fun _ h=>h.2)) (fun _ h=>h.1));replace HK:=zM (KeepBut.trans zB8 hk (.inl rfl));replace HB:=zM hb;replace HI0:=zM hi;clear hb hk hi)|((with_reducible refine zBx 3 109 #[.int .i64 0,.int .i64 0,.int .i64 0,.int .i64 0,.int .i64 0] ?_);intro gb225 hg w10 hbox hb;replace HO221:=zM (Kd.R_below (zR HO221.1) hb);replace HB:=zM (below_step zB7 hb);have BK225:=zM hbox;have GW225:=zM ((by rw [hg];exact (keep_size (w:=w) (g:=g) (row:=none) zB8):w.heap.size≤gb225));have GE225:=zM ((Nat.le_trans HW0.1 (by rw [hg];exact (keep_size (w:=w) (g:=g) (row:=none) zB8):w.heap.size≤gb225):w0.heap.size≤gb225));replace HK:=zM (KeepBut.trans zB8 (KeepBut.of_below hb g none) (.inl rfl));have NB218_225:=zM ((zn BK218.1 hg:gb218≠gb225));have NB225_218:=zM ((zm BK218.1 hg:gb225≠gb218));replace BK218:=zM (zb BK218.1 hb);have NB0_225:=zM ((by rw [hg];exact Nat.ne_of_lt (IsS106.lt (show IsS106 w0 _ g s0_0 t223 t224 from zB31)):g≠gb225));have NB225_0:=zM ((by rw [hg];exact Nat.ne_of_gt (IsS106.lt (show IsS106 w0 _ g s0_0 t223 t224 from zB31)):gb225≠g));replace HI0:=zM (IsS106.below zB31 hb);clear hb hbox hg;have hnb11:=NB225_218.1;have hnc11:=NB218_225.1;have hnb12:=NB225_0.1;have hnc12:=NB0_225.1;have hcz13:=zc_5 (w:=w10) BK225.1)|((with_reducible refine zG Try.func126 11 #[.int .i64 t222] ?_);(with_reducible refine (spec_l8Has.calls t222 t226 _ A3.1).mono ?_);rintro e w14 ⟨rfl,hb⟩;refine ⟨_,rfl,?_⟩;replace HO221:=zM (Kd.R_below (by refine zrR ?_;exact (Kd.R_mono (zfR (zfR (zfR (zfR (zfR (Kd.R_types HO221.1 BK225.1 (by decide))))))) (fun _ h_=>h_.1))) hb);replace BK218:=zM (zf BK218.1 hb);replace BK225:=zM (blk_below (g:=gb225) (o:= .cells #[.int .i64 t222,.int .i64 0,.int .i64 0,.int .i64 0,.int .i64 0] 109 (0,0)) (by exact zp5 (zK BK225.1)) hb);replace HK:=zM (KeepBut.trans zB8 (KeepBut.of_below hb g none) (.inl rfl));replace HB:=zM (below_step zB7 hb);replace HI0:=zM (IsS106.below (show IsS106 w0 (((((w10.setCell ⟨gb225,0,none⟩ (.int .i64 t222)).setCell ⟨gb225,1,none⟩ (.int .i64 0)).setCell ⟨gb225,2,none⟩ (.int .i64 0)).setCell ⟨gb225,3,none⟩ (.int .i64 0)).setCell ⟨gb225,4,none⟩ (.int .i64 0)) g s0_0 t223 t224 from zB33) hb);clear hb))
 (try simp only [Act.put,List.setIfInBounds_toArray,List.set_cons_zero,List.set_cons_succ])
 go_cut [] (fun wc=>∃(kq:Nat) (x1001_3:Int) (x1002_3:Int) (x226001_3:Int),Aside0 (spec_l8DrawIns.j0 kq t226 s0_0 x1001_3 x1002_3 t222 x226001_3 0 0 0=some (r1,r2,r3,r4,r5,r6,r7))∧Aside0 (kq≤k)∧Aside0 (wc.heap[gb218]? =some (.cells #[.int .i64 0,.int .i64 0,.int .i64 0,.int .i64 0,.int .i64 0] 109 (0,0)))∧Aside0 (wc.heap[gb225]? =some (.cells #[.int .i64 t222,.int .i64 x226001_3,.int .i64 0,.int .i64 0,.int .i64 0] 109 (0,0)))∧Aside0 (IsS106 w0 wc g s0_0 x1001_3 x1002_3)∧Aside0 (KeepBut w wc g none)∧Aside0 (Below w0.heap.size w0 wc))
 case first=>
  have H:=HC4.1
  clear HC4
  by_cases c15:(Go.bits .and .i64 t226 1)=0
  ·rw [if_pos c15] at H
   have c15b0:((Go.bits .and .i64 t226 1) == 0)=true:=beq_iff_eq.mpr c15
   have c15b1:((Go.bits .and .i64 t226 1) != 0)=false:=bne_eq_false_iff_eq.mpr c15
   clear c15
   (first|rw [c15b0]|(simp only [i64_w,i32_w];rw [c15b0])|skip)
   have H':=zM H
   clear H
   go_wp2
   go_meet
   case rel=>exact ⟨_,(t223),(t224),(0),H',⟨by first|omega|exact Nat.le_refl _⟩,⟨zK BK218.1⟩,⟨zK BK225.1⟩,⟨zB33⟩,⟨zB8⟩,⟨zB7⟩⟩
  rw [if_neg c15] at H
  have c15b0:((Go.bits .and .i64 t226 1) == 0)=false:=beq_eq_false_iff_ne.mpr c15
  have c15b1:((Go.bits .and .i64 t226 1) != 0)=true:=bne_iff_ne.mpr c15
  (first|rw [c15b0]|(simp only [i64_w,i32_w];rw [c15b0])|skip)
  replace H:=zO H
  obtain ⟨⟨t227,t228,t229⟩,A16,H⟩:=H
  try dsimp only at H
  have H':=zM H
  clear H
  go_wp2_with (first|((with_reducible refine zG Try.func90 16 #[.pointer (some ⟨g,0,none⟩),.int .i64 4] ?_);(with_reducible refine (spec_l1Below.calls g s0_0 t223 t224 4 t227 t228 t229 w0 _ ?side1 ?side2 A16.1).mono ?_);(case side1=>exact zB33);(case side2=>exact zB7);rintro e w17 ⟨rfl,hi,hb,hk⟩;refine ⟨_,rfl,?_⟩;replace BK218:=zM (zh hk BK218.1 NB218_0.1);replace HO221:=zM (Kd.R_mono (Kd.R_keep (IsS106.apart (show IsS106 w0 _ g s0_0 t223 t224 from zB33) (zR HO221.1) (by decide)) hk (fun _ h=>h.2)) (fun _ h=>h.1));replace BK225:=zM (zh hk BK225.1 NB225_0.1);replace HK:=zM (KeepBut.trans zB8 hk (.inl rfl));replace HB:=zM hb;replace HI0:=zM hi;clear hb hk hi;have hnb18:=NB225_218.1;have hnc18:=NB218_225.1;have hnb19:=NB225_0.1;have hnc19:=NB0_225.1;have hcz20:=zc_5 (w:=w17) BK225.1))
  go_meet
  case rel=>exact ⟨_,(t228),(t229),(t227),H',⟨by first|omega|exact Nat.le_refl _⟩,⟨by refine zP ?_;refine blk_far ?_ NB218_225.1 _;refine zP ?_;exact BK218.1⟩,⟨by refine zP ?_;refine blk_put (cs:=#[.int .i64 t222,.int .i64 0,.int .i64 0,.int .i64 0,.int .i64 0]) ?_ 1 _ rfl;refine zP ?_;exact BK225.1⟩,⟨zB33⟩,⟨zB8⟩,⟨zB7⟩⟩
 case rest=>
  clear HC4
  obtain ⟨kq,x1001_3,x1002_3,x226001_3,HA,HJ3,BK218,BK225,HI0,HK,HB⟩:=hcut
  cases kq with
  |zero=>exact absurd HA.1 (by simp [spec_l8DrawIns.j0])
  |succ kj3=>
   have H:=HA.1
   clear HA
   simp only [spec_l8DrawIns.j0] at H
   have HC21:=zM H
   clear H
   go_upto_if 20 with (fail)
   go_cut [] (fun wc=>∃(kq:Nat) (x1001_20:Int) (x1002_20:Int) (x226002_20:Int),Aside0 (spec_l8DrawIns.j1 kq t226 s0_0 x1001_20 x1002_20 t222 x226001_3 x226002_20 0 0=some (r1,r2,r3,r4,r5,r6,r7))∧Aside0 (kq≤kj3)∧Aside0 (wc.heap[gb218]? =some (.cells #[.int .i64 0,.int .i64 0,.int .i64 0,.int .i64 0,.int .i64 0] 109 (0,0)))∧Aside0 (wc.heap[gb225]? =some (.cells #[.int .i64 t222,.int .i64 x226001_3,.int .i64 x226002_20,.int .i64 0,.int .i64 0] 109 (0,0)))∧Aside0 (IsS106 w0 wc g s0_0 x1001_20 x1002_20)∧Aside0 (KeepBut w wc g none)∧Aside0 (Below w0.heap.size w0 wc))
   case first=>
    have H:=HC21.1
    clear HC21
    by_cases c22:(Go.bits .and .i64 t226 2)=0
    ·rw [if_pos c22] at H
     have c22b0:((Go.bits .and .i64 t226 2) == 0)=true:=beq_iff_eq.mpr c22
     have c22b1:((Go.bits .and .i64 t226 2) != 0)=false:=bne_eq_false_iff_eq.mpr c22
     clear c22
     (first|rw [c22b0]|(simp only [i64_w,i32_w];rw [c22b0])|skip)
     have H':=zM H
     clear H
     go_wp2
     go_meet
     case rel=>exact ⟨_,(x1001_3),(x1002_3),(0),H',⟨by have:=HJ3.1;first|omega|exact Nat.le_refl _⟩,⟨zK BK218.1⟩,⟨zK BK225.1⟩,⟨zB33⟩,⟨zB8⟩,⟨zB7⟩⟩
    rw [if_neg c22] at H
    have c22b0:((Go.bits .and .i64 t226 2) == 0)=false:=beq_eq_false_iff_ne.mpr c22
    have c22b1:((Go.bits .and .i64 t226 2) != 0)=true:=bne_iff_ne.mpr c22
    (first|rw [c22b0]|(simp only [i64_w,i32_w];rw [c22b0])|skip)
    replace H:=zO H
    obtain ⟨⟨t230,t231,t232⟩,A23,H⟩:=H
    try dsimp only at H
    have H':=zM H
    clear H
    go_wp2_with (first|((with_reducible refine zG Try.func90 22 #[.pointer (some ⟨g,0,none⟩),.int .i64 4] ?_);(with_reducible refine (spec_l1Below.calls g s0_0 x1001_3 x1002_3 4 t230 t231 t232 w0 _ ?side1 ?side2 A23.1).mono ?_);(case side1=>exact zB33);(case side2=>exact zB7);rintro e w24 ⟨rfl,hi,hb,hk⟩;refine ⟨_,rfl,?_⟩;replace BK218:=zM (zh hk BK218.1 NB218_0.1);replace BK225:=zM (zh hk BK225.1 NB225_0.1);replace HK:=zM (KeepBut.trans zB8 hk (.inl rfl));replace HB:=zM hb;replace HI0:=zM hi;clear hb hk hi;have hnb25:=NB225_218.1;have hnc25:=NB218_225.1;have hnb26:=NB225_0.1;have hnc26:=NB0_225.1;have hcz27:=zc_5 (w:=w24) BK225.1))
    go_meet
    case rel=>exact ⟨_,(t231),(t232),(t230),H',⟨by have:=HJ3.1;first|omega|exact Nat.le_refl _⟩,⟨by refine zP ?_;refine blk_far ?_ NB218_225.1 _;refine zP ?_;exact BK218.1⟩,⟨by refine zP ?_;refine blk_put (cs:=#[.int .i64 t222,.int .i64 x226001_3,.int .i64 0,.int .i64 0,.int .i64 0]) ?_ 2 _ rfl;refine zP ?_;exact BK225.1⟩,⟨zB33⟩,⟨zB8⟩,⟨zB7⟩⟩
   case rest=>
    clear HC21
    obtain ⟨kq,x1001_20,x1002_20,x226002_20,HA,HJ20,BK218,BK225,HI0,HK,HB⟩:=hcut
    cases kq with
    |zero=>exact absurd HA.1 (by simp [spec_l8DrawIns.j1])
    |succ kj20=>
     have H:=HA.1
     clear HA
     simp only [spec_l8DrawIns.j1] at H
     by_cases c28:(Go.bits .and .i64 t226 4)=0
     ·rw [if_pos c28] at H
      have c28b0:((Go.bits .and .i64 t226 4) == 0)=true:=beq_iff_eq.mpr c28
      have c28b1:((Go.bits .and .i64 t226 4) != 0)=false:=bne_eq_false_iff_eq.mpr c28
      clear c28
      by_cases c29:(Go.bits .and .i64 t226 8)=0
      ·rw [if_pos c29] at H
       have c29b0:((Go.bits .and .i64 t226 8) == 0)=true:=beq_iff_eq.mpr c29
       have c29b1:((Go.bits .and .i64 t226 8) != 0)=false:=bne_eq_false_iff_eq.mpr c29
       clear c29
       simp only [Option.some.injEq,Prod.mk.injEq] at H
       obtain ⟨rfl,rfl,rfl,rfl,rfl,rfl,rfl⟩:=H
       have hnb30:=NB225_218.1
       have hnc30:=NB218_225.1
       have hnb31:=NB225_0.1
       have hnc31:=NB0_225.1
       have hcz32:=zc_5 (w:=wc) BK225.1
       have hnb33:=NB218_0.1
       have hnc33:=NB0_218.1
       have hcz34:=zc_5 (w:=wc) BK218.1
       go_wp2
       refine bodyPost_ret (results_cell_row rfl _ _ gb218 109 #[.int .i64 t222,.int .i64 x226001_3,.int .i64 x226002_20,.int .i64 0,.int .i64 0] (0,0) _ rfl (by exact zp5 (zK BK218.1)) Try.underlying109 rfl (by kernel_rfl)) rfl ?_
       exact ⟨zE,zB33,zB7,zB8⟩
      rw [if_neg c29] at H
      have c29b0:((Go.bits .and .i64 t226 8) == 0)=false:=beq_eq_false_iff_ne.mpr c29
      have c29b1:((Go.bits .and .i64 t226 8) != 0)=true:=bne_iff_ne.mpr c29
      generalize hy233:((([0,1,2,4,8,9,12,20,23]:List Int)):List Int)=y233 at H
      have Ny233:=zM hy233.symm
      clear hy233
      replace H:=zO H
      obtain ⟨⟨t236,t237,t238⟩,A35,H⟩:=H
      try dsimp only at H
      simp only [Option.some.injEq,Prod.mk.injEq] at H
      obtain ⟨rfl,rfl,rfl,rfl,rfl,rfl,rfl⟩:=H
      go_wp2_with (first|((with_reducible refine gate_dst (N:=34) rfl ?_);refine Kd.R_lit (Kd.int .i64) _ 3 ?hg (N:=34) ?hd (xs:=([0,1,2,4,8,9,12,20,23]:List Int)) (inner:=[.int .i64 0,.int .i64 1,.int .i64 2,.int .i64 4,.int .i64 8,.int .i64 9,.int .i64 12,.int .i64 20,.int .i64 23]) (ok:=fun _=>True) (okp:=fun _=>True) ?hr ?hp (fun _ hk=>hk) trivial (Below.refl _ _) (Nat.le_refl _) (by simp) ?_;(case hd=>rfl);(case hg=>rfl);(case hr=>exact zHH);(case hp=>exact (Reps.one (show Kd.M (Kd.int .i64) _ _ _ 0 [.int .i64 0] from rfl) (Reps.one (show Kd.M (Kd.int .i64) _ _ _ 1 [.int .i64 1] from rfl) (Reps.one (show Kd.M (Kd.int .i64) _ _ _ 2 [.int .i64 2] from rfl) (Reps.one (show Kd.M (Kd.int .i64) _ _ _ 4 [.int .i64 4] from rfl) (Reps.one (show Kd.M (Kd.int .i64) _ _ _ 8 [.int .i64 8] from rfl) (Reps.one (show Kd.M (Kd.int .i64) _ _ _ 9 [.int .i64 9] from rfl) (Reps.one (show Kd.M (Kd.int .i64) _ _ _ 12 [.int .i64 12] from rfl) (Reps.one (show Kd.M (Kd.int .i64) _ _ _ 20 [.int .i64 20] from rfl) (Reps.one (show Kd.M (Kd.int .i64) _ _ _ 23 [.int .i64 23] from rfl) (Reps.none _ _)))))))))));intro v234 w36 ho37 hb hg_ hnew_;clear hg_ hnew_;(first|rw [←Ny233.1] at ho37|(simp only [Int.reduceToNat] at ho37;rw [←Ny233.1] at ho37));have HO235:=zM (Kd.R_lower ho37 (keep_size (w:=w) (g:=g) (row:=none) zB8));replace BK218:=zM (zb BK218.1 hb);replace BK225:=zM (zb BK225.1 hb);replace HK:=zM (KeepBut.trans zB8 (KeepBut.of_below hb g none) (.inl rfl));replace HB:=zM (below_step zB7 hb);replace HI0:=zM (IsS106.below zB33 hb);clear hb ho37;obtain ⟨Ao38,co38,eo38⟩:=Kd.R_slice HO235.1;subst eo38)|((with_reducible refine zG Try.func91 35 #[.pointer (some ⟨g,0,none⟩),.slice Ao38 y233.length co38] ?_);(with_reducible refine (spec_l1PickInt.calls g s0_0 x1001_20 x1002_20 _ _ y233 t236 t237 t238 w0 _ ?side1 ?side2 ?side3 ?side4 ?side5 A35.1).mono ?_);(case side1=>exact zB33);(case side2=>exact zB7);(case side3=>exact zC (Kd.R_reads' HO235.1).2.2);(case side4=>exact (Kd.R_reads' HO235.1).2.1);(case side5=>exact far_slice (IsS106.own_ne HI0.1 HO235.1 (by decide)));rintro e w39 ⟨rfl,hi,hb,hk⟩;refine ⟨_,rfl,?_⟩;replace BK218:=zM (zh hk BK218.1 NB218_0.1);replace BK225:=zM (zh hk BK225.1 NB225_0.1);replace HO235:=zM (Kd.R_mono (Kd.R_keep (IsS106.apart (show IsS106 w0 _ g s0_0 x1001_20 x1002_20 from zB33) (zR HO235.1) (by decide)) hk (fun _ h=>h.2)) (fun _ h=>h.1));replace HK:=zM (KeepBut.trans zB8 hk (.inl rfl));replace HB:=zM hb;replace HI0:=zM hi;clear hb hk hi;have hnb40:=NB225_218.1;have hnc40:=NB218_225.1;have hnb41:=NB225_0.1;have hnc41:=NB0_225.1;have hcz42:=zc_5 (w:=w39) BK225.1;have hnb43:=NB218_0.1;have hnc43:=NB0_218.1;have hcz44:=zc_5 (w:=w39) BK218.1))
      refine bodyPost_ret (results_cell_row rfl _ _ gb218 109 #[.int .i64 t222,.int .i64 x226001_3,.int .i64 x226002_20,.int .i64 0,.int .i64 t236] (0,0) _ rfl zPq Try.underlying109 rfl (by kernel_rfl)) rfl ?_
      exact ⟨zE,zB33,zB7,zB8⟩
     rw [if_neg c28] at H
     have c28b0:((Go.bits .and .i64 t226 4) == 0)=false:=beq_eq_false_iff_ne.mpr c28
     have c28b1:((Go.bits .and .i64 t226 4) != 0)=true:=bne_iff_ne.mpr c28
     replace H:=zO H
     obtain ⟨⟨t239,t240,t241⟩,A45,H⟩:=H
     try dsimp only at H
     by_cases c46:(Go.bits .and .i64 t226 8)=0
     ·rw [if_pos c46] at H
      have c46b0:((Go.bits .and .i64 t226 8) == 0)=true:=beq_iff_eq.mpr c46
      have c46b1:((Go.bits .and .i64 t226 8) != 0)=false:=bne_eq_false_iff_eq.mpr c46
      clear c46
      simp only [Option.some.injEq,Prod.mk.injEq] at H
      obtain ⟨rfl,rfl,rfl,rfl,rfl,rfl,rfl⟩:=H
      go_wp2_with (first|((with_reducible refine zG Try.func90 28 #[.pointer (some ⟨g,0,none⟩),.int .i64 4] ?_);(with_reducible refine (spec_l1Below.calls g s0_0 x1001_20 x1002_20 4 t239 t240 t241 w0 _ ?side1 ?side2 A45.1).mono ?_);(case side1=>exact zB33);(case side2=>exact zB7);rintro e w47 ⟨rfl,hi,hb,hk⟩;refine ⟨_,rfl,?_⟩;replace BK218:=zM (zh hk BK218.1 NB218_0.1);replace BK225:=zM (zh hk BK225.1 NB225_0.1);replace HK:=zM (KeepBut.trans zB8 hk (.inl rfl));replace HB:=zM hb;replace HI0:=zM hi;clear hb hk hi;have hnb48:=NB225_218.1;have hnc48:=NB218_225.1;have hnb49:=NB225_0.1;have hnc49:=NB0_225.1;have hcz50:=zc_5 (w:=w47) BK225.1;have hnb51:=NB218_0.1;have hnc51:=NB0_218.1;have hcz52:=zc_5 (w:=w47) BK218.1))
      refine bodyPost_ret (results_cell_row rfl _ _ gb218 109 #[.int .i64 t222,.int .i64 x226001_3,.int .i64 x226002_20,.int .i64 t239,.int .i64 0] (0,0) _ rfl zPq Try.underlying109 rfl (by kernel_rfl)) rfl ?_
      exact ⟨zE,zB33,zB7,zB8⟩
     rw [if_neg c46] at H
     have c46b0:((Go.bits .and .i64 t226 8) == 0)=false:=beq_eq_false_iff_ne.mpr c46
     have c46b1:((Go.bits .and .i64 t226 8) != 0)=true:=bne_iff_ne.mpr c46
     generalize hy242:((([0,1,2,4,8,9,12,20,23]:List Int)):List Int)=y242 at H
     have Ny242:=zM hy242.symm
     clear hy242
     replace H:=zO H
     obtain ⟨⟨t245,t246,t247⟩,A53,H⟩:=H
     try dsimp only at H
     simp only [Option.some.injEq,Prod.mk.injEq] at H
     obtain ⟨rfl,rfl,rfl,rfl,rfl,rfl,rfl⟩:=H
     go_wp2_with (first|((with_reducible refine zG Try.func90 28 #[.pointer (some ⟨g,0,none⟩),.int .i64 4] ?_);(with_reducible refine (spec_l1Below.calls g s0_0 x1001_20 x1002_20 4 t239 t240 t241 w0 _ ?side1 ?side2 A45.1).mono ?_);(case side1=>exact zB33);(case side2=>exact zB7);rintro e w54 ⟨rfl,hi,hb,hk⟩;refine ⟨_,rfl,?_⟩;replace BK218:=zM (zh hk BK218.1 NB218_0.1);replace BK225:=zM (zh hk BK225.1 NB225_0.1);replace HK:=zM (KeepBut.trans zB8 hk (.inl rfl));replace HB:=zM hb;replace HI0:=zM hi;clear hb hk hi;have hnb55:=NB225_218.1;have hnc55:=NB218_225.1;have hnb56:=NB225_0.1;have hnc56:=NB0_225.1;have hcz57:=zc_5 (w:=w54) BK225.1)|((with_reducible refine gate_dst (N:=34) rfl ?_);refine Kd.R_lit (Kd.int .i64) _ 3 ?hg (N:=34) ?hd (xs:=([0,1,2,4,8,9,12,20,23]:List Int)) (inner:=[.int .i64 0,.int .i64 1,.int .i64 2,.int .i64 4,.int .i64 8,.int .i64 9,.int .i64 12,.int .i64 20,.int .i64 23]) (ok:=fun _=>True) (okp:=fun _=>True) ?hr ?hp (fun _ hk=>hk) trivial (Below.refl _ _) (Nat.le_refl _) (by simp) ?_;(case hd=>rfl);(case hg=>rfl);(case hr=>exact zHH);(case hp=>exact (Reps.one (show Kd.M (Kd.int .i64) _ _ _ 0 [.int .i64 0] from rfl) (Reps.one (show Kd.M (Kd.int .i64) _ _ _ 1 [.int .i64 1] from rfl) (Reps.one (show Kd.M (Kd.int .i64) _ _ _ 2 [.int .i64 2] from rfl) (Reps.one (show Kd.M (Kd.int .i64) _ _ _ 4 [.int .i64 4] from rfl) (Reps.one (show Kd.M (Kd.int .i64) _ _ _ 8 [.int .i64 8] from rfl) (Reps.one (show Kd.M (Kd.int .i64) _ _ _ 9 [.int .i64 9] from rfl) (Reps.one (show Kd.M (Kd.int .i64) _ _ _ 12 [.int .i64 12] from rfl) (Reps.one (show Kd.M (Kd.int .i64) _ _ _ 20 [.int .i64 20] from rfl) (Reps.one (show Kd.M (Kd.int .i64) _ _ _ 23 [.int .i64 23] from rfl) (Reps.none _ _)))))))))));intro v243 w58 ho59 hb hg_ hnew_;clear hg_ hnew_;(first|rw [←Ny242.1] at ho59|(simp only [Int.reduceToNat] at ho59;rw [←Ny242.1] at ho59));have HO244:=zM (Kd.R_lower ho59 (keep_size (w:=w) (g:=g) (row:=none) zB8));replace BK218:=zM (zf BK218.1 hb);replace BK225:=zM (blk_below (g:=gb225) (o:= .cells #[.int .i64 t222,.int .i64 x226001_3,.int .i64 x226002_20,.int .i64 t239,.int .i64 0] 109 (0,0)) zPq hb);replace HK:=zM (KeepBut.trans zB8 (KeepBut.of_below hb g none) (.inl rfl));replace HB:=zM (below_step zB7 hb);replace HI0:=zM (IsS106.below (show IsS106 w0 (w54.setCell ⟨gb225,3,none⟩ (.int .i64 t239)) g s0_0 t240 t241 from zB33) hb);clear hb ho59;obtain ⟨Ao60,co60,eo60⟩:=Kd.R_slice HO244.1;subst eo60)|((with_reducible refine zG Try.func91 35 #[.pointer (some ⟨g,0,none⟩),.slice Ao60 y242.length co60] ?_);(with_reducible refine (spec_l1PickInt.calls g s0_0 t240 t241 _ _ y242 t245 t246 t247 w0 _ ?side1 ?side2 ?side3 ?side4 ?side5 A53.1).mono ?_);(case side1=>exact zB33);(case side2=>exact zB7);(case side3=>exact zC (Kd.R_reads' HO244.1).2.2);(case side4=>exact (Kd.R_reads' HO244.1).2.1);(case side5=>exact far_slice (IsS106.own_ne HI0.1 HO244.1 (by decide)));rintro e w61 ⟨rfl,hi,hb,hk⟩;refine ⟨_,rfl,?_⟩;replace BK218:=zM (zh hk BK218.1 NB218_0.1);replace BK225:=zM (zh hk BK225.1 NB225_0.1);replace HO244:=zM (Kd.R_mono (Kd.R_keep (IsS106.apart (show IsS106 w0 _ g s0_0 t240 t241 from zB33) (zR HO244.1) (by decide)) hk (fun _ h=>h.2)) (fun _ h=>h.1));replace HK:=zM (KeepBut.trans zB8 hk (.inl rfl));replace HB:=zM hb;replace HI0:=zM hi;clear hb hk hi;have hcz62:=zc_5 (w:=w61) BK225.1;have hnb63:=NB218_0.1;have hnc63:=NB0_218.1;have hcz64:=zc_5 (w:=w61) BK218.1))
     refine bodyPost_ret (results_cell_row rfl _ _ gb218 109 #[.int .i64 t222,.int .i64 x226001_3,.int .i64 x226002_20,.int .i64 t239,.int .i64 t245] (0,0) _ rfl zPq Try.underlying109 rfl (by kernel_rfl)) rfl ?_
     exact ⟨zE,zB33,zB7,zB8⟩

end Go.Proofs.Ytpcgecacaemalaa.PFnStops
