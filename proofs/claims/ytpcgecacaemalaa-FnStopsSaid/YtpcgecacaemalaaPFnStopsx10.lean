-- made by wip/tools/myprint.py out of the seat's translation
import Derived.Test.YtpcgecacaemalaaPFnStopsx0
import Derived.Test.YtpcgecacaemalaaPFnStopsx9
namespace Go.Proofs.Ytpcgecacaemalaa.PFnStops
open Go.RowKit Go.Proofs.YtpcgecacaemalaaW.PrintWords Go.Proofs.YtpcgecacaemalaaW.PrintLast Go.Proofs.YtpcgecacaemalaaW.PrintMore
attribute [local go_sem] max2_int min2_int max_two min_two max_three min_three max_four min_four -- for this text's walks alone
set_option linter.unusedVariables false
set_option linter.unusedSimpArgs false
set_option maxHeartbeats 8000000
set_option maxRecDepth 100000

/-! ### impl_aims: function 121 -/
def impl_aims.f (a0_0:Int) (a0_1:Int) (a0_2:Int) (a0_3:Int) (a0_4:Int):Option (Bool):=if a0_0=4 then (some true) else (if a0_0=5 then (some true) else (some (a0_0 == 6)))
theorem impl_aims.calls (a0_0:Int) (a0_1:Int) (a0_2:Int) (a0_3:Int) (a0_4:Int) (r:Bool) (w:World) (h:impl_aims.f a0_0 a0_1 a0_2 a0_3 a0_4=some r):
  Calls Try.prog 121 #[.agg #[.int .i64 a0_0,.int .i64 a0_1,.int .i64 a0_2,.int .i64 a0_3,.int .i64 a0_4]] w fun e w'=>e= .returned (.bool r)∧Below w.heap.size w w':=by
 have hu109:=Try.underlying109
 have HB:=zM (Below.refl w.heap.size w)
 unfold impl_aims.f at h
 have H:=h
 clear h
 by_cases c2:a0_0=4
 ·rw [if_pos c2] at H
  have c2b0:(a0_0 == 4)=true:=beq_iff_eq.mpr c2
  have c2b1:(a0_0 != 4)=false:=bne_eq_false_iff_eq.mpr c2
  clear c2
  obtain rfl:=Option.some.inj H
  go_enter Try.func121,Try.ntmps121
  go_wp2_with (first|((with_reducible refine zBx 1 109 #[.int .i64 a0_0,.int .i64 a0_1,.int .i64 a0_2,.int .i64 a0_3,.int .i64 a0_4] ?_);intro gb494 hg w3 hbox hb;have BK494:=zM hbox;have GW494:=zM (zW hg (below_size zB0));have GE494:=zM (zW hg (below_size zB0));replace HB:=zM (below_step zB0 hb);clear hb hbox hg;have hcz4:=zc_5 (w:=w3) BK494.1))
  go_ret
  exact ⟨zE,zB0⟩
 rw [if_neg c2] at H
 have c2b0:(a0_0 == 4)=false:=beq_eq_false_iff_ne.mpr c2
 have c2b1:(a0_0 != 4)=true:=bne_iff_ne.mpr c2
 by_cases c5:a0_0=5
 rotate_left
 ·rw [if_neg c5] at H
  have c5b0:(a0_0 == 5)=false:=beq_eq_false_iff_ne.mpr c5
  have c5b1:(a0_0 != 5)=true:=bne_iff_ne.mpr c5
  obtain rfl:=Option.some.inj H
  go_enter Try.func121,Try.ntmps121
  go_wp2_with (first|((with_reducible refine zBx 1 109 #[.int .i64 a0_0,.int .i64 a0_1,.int .i64 a0_2,.int .i64 a0_3,.int .i64 a0_4] ?_);intro gb494 hg w8 hbox hb;have BK494:=zM hbox;have GW494:=zM (zW hg (below_size zB0));have GE494:=zM (zW hg (below_size zB0));replace HB:=zM (below_step zB0 hb);clear hb hbox hg;have hcz9:=zc_5 (w:=w8) BK494.1))
  go_ret
  exact ⟨zE,zB0⟩
 rw [if_pos c5] at H
 have c5b0:(a0_0 == 5)=true:=beq_iff_eq.mpr c5
 have c5b1:(a0_0 != 5)=false:=bne_eq_false_iff_eq.mpr c5
 clear c5
 obtain rfl:=Option.some.inj H
 go_enter Try.func121,Try.ntmps121
 go_wp2_with (first|((with_reducible refine zBx 1 109 #[.int .i64 a0_0,.int .i64 a0_1,.int .i64 a0_2,.int .i64 a0_3,.int .i64 a0_4] ?_);intro gb494 hg w6 hbox hb;have BK494:=zM hbox;have GW494:=zM (zW hg (below_size zB0));have GE494:=zM (zW hg (below_size zB0));replace HB:=zM (below_step zB0 hb);clear hb hbox hg;have hcz7:=zc_5 (w:=w6) BK494.1))
 go_ret
 exact ⟨zE,zB0⟩

/-! ### impl_address: function 122 -/
def impl_address.f (a0:Int):Option (Int):=some (Int.tmod (wrap64 ((Int.tmod a0 24)+24)) 24)
theorem impl_address.calls (a0:Int) (r:Int) (w:World) (h:impl_address.f a0=some r):
  Calls Try.prog 122 #[.int .i64 a0] w fun e w'=>e= .returned (.int .i64 r)∧Drawn0 w w':=by
 unfold impl_address.f at h
 have H:=h
 clear h
 obtain rfl:=Option.some.inj H
 go_enter Try.func122,Try.ntmps122
 go_wp2
 go_ret
 exact ⟨zJJ,zDD⟩

/-! ### impl_Target: function 102 -/
def impl_Target.f (a0_0:Int) (a0_1:Int) (a0_2:Int) (a0_3:Int) (a0_4:Int) (l1:List Int):Option (Int):=(impl_InsOk.f a0_0 a0_1 a0_2 a0_3 a0_4).bind fun t496=>(if t496=true then ((impl_aims.f a0_0 a0_1 a0_2 a0_3 a0_4).bind fun t497=>(if t497=true then (if (l1.length:Int)=4 then (if 0≤a0_2 then (if a0_2<(l1.length:Int) then ((impl_address.f (wrap64 ((rd l1 a0_2)+a0_4))).bind fun t499=>(some t499)) else (none)) else (none)) else (some (-1))) else (some (-1)))) else (some (-1)))
theorem impl_Target.calls (a0_0:Int) (a0_1:Int) (a0_2:Int) (a0_3:Int) (a0_4:Int) (A1:Option Addr) (c1:Nat) (l1:List Int) (r:Int) (w:World) (hr1:Kd.C (Kd.int .i64) w A1 l1.length l1) (hc1:l1.length≤c1) (h:impl_Target.f a0_0 a0_1 a0_2 a0_3 a0_4 l1=some r):
  Calls Try.prog 102 #[.agg #[.int .i64 a0_0,.int .i64 a0_1,.int .i64 a0_2,.int .i64 a0_3,.int .i64 a0_4],.slice A1 l1.length c1] w fun e w'=>e= .returned (.int .i64 r)∧Below w.heap.size w w':=by
 have hu109:=Try.underlying109
 have HR1:=zM hr1
 have HC1:=zM hc1
 clear hr1 hc1
 have HB:=zM (Below.refl w.heap.size w)
 unfold impl_Target.f at h
 have H:=h
 clear h
 replace H:=zO H
 obtain ⟨t496,A3,H⟩:=H
 by_cases c4:t496=true
 rotate_left
 ·replace c4:=Bool.eq_false_iff.mpr c4
  subst c4
  rw [if_neg zF] at H
  obtain rfl:=Option.some.inj H
  go_enter Try.func102,Try.ntmps102
  go_wp2_with (first|((with_reducible refine gate_dst (N:=2) rfl ?_);(try (refine gate_guard (by rfl) ?_;dsimp only));(with_reducible refine zBx 2 109 #[.int .i64 a0_0,.int .i64 a0_1,.int .i64 a0_2,.int .i64 a0_3,.int .i64 a0_4] ?_);intro gb495 hg w27 hbox hb;have BK495:=zM hbox;have GW495:=zM (zW hg (below_size zB0));have GE495:=zM (zW hg (below_size zB0));replace HB:=zM (below_step zB0 hb);clear hb hbox hg;have hcz28:=zc_5 (w:=w27) BK495.1)|(go_at_call 120;(with_reducible refine (impl_InsOk.calls a0_0 a0_1 a0_2 a0_3 a0_4 false _ A3.1).mono ?_);rintro e w29 ⟨rfl,hb⟩;replace BK495:=zM (zb BK495.1 hb);replace HB:=zM (below_step zB0 hb);clear hb))
  repeat (go_quiet (first|((with_reducible refine gate_dst (N:=2) rfl ?_);(try (refine gate_guard (by rfl) ?_;dsimp only));(with_reducible refine zBx 2 109 #[.int .i64 a0_0,.int .i64 a0_1,.int .i64 a0_2,.int .i64 a0_3,.int .i64 a0_4] ?_);intro gb495 hg w27 hbox hb;have BK495:=zM hbox;have GW495:=zM (zW hg (below_size zB0));have GE495:=zM (zW hg (below_size zB0));replace HB:=zM (below_step zB0 hb);clear hb hbox hg;have hcz28:=zc_5 (w:=w27) BK495.1)|(go_at_call 120;(with_reducible refine (impl_InsOk.calls a0_0 a0_1 a0_2 a0_3 a0_4 false _ A3.1).mono ?_);rintro e w29 ⟨rfl,hb⟩;replace BK495:=zM (zb BK495.1 hb);replace HB:=zM (below_step zB0 hb);clear hb));try go_wp2_with (first|((with_reducible refine gate_dst (N:=2) rfl ?_);(try (refine gate_guard (by rfl) ?_;dsimp only));(with_reducible refine zBx 2 109 #[.int .i64 a0_0,.int .i64 a0_1,.int .i64 a0_2,.int .i64 a0_3,.int .i64 a0_4] ?_);intro gb495 hg w27 hbox hb;have BK495:=zM hbox;have GW495:=zM (zW hg (below_size zB0));have GE495:=zM (zW hg (below_size zB0));replace HB:=zM (below_step zB0 hb);clear hb hbox hg;have hcz28:=zc_5 (w:=w27) BK495.1)|(go_at_call 120;(with_reducible refine (impl_InsOk.calls a0_0 a0_1 a0_2 a0_3 a0_4 false _ A3.1).mono ?_);rintro e w29 ⟨rfl,hb⟩;replace BK495:=zM (zb BK495.1 hb);replace HB:=zM (below_step zB0 hb);clear hb)))
  go_ret
  exact ⟨zE,zB0⟩
 subst c4
 rw [if_pos rfl] at H
 replace H:=zO H
 obtain ⟨t497,A5,H⟩:=H
 by_cases c6:t497=true
 rotate_left
 ·replace c6:=Bool.eq_false_iff.mpr c6
  subst c6
  rw [if_neg zF] at H
  obtain rfl:=Option.some.inj H
  go_enter Try.func102,Try.ntmps102
  go_wp2_with (first|((with_reducible refine gate_dst (N:=2) rfl ?_);(try (refine gate_guard (by rfl) ?_;dsimp only));(with_reducible refine zBx 2 109 #[.int .i64 a0_0,.int .i64 a0_1,.int .i64 a0_2,.int .i64 a0_3,.int .i64 a0_4] ?_);intro gb495 hg w22 hbox hb;have BK495:=zM hbox;have GW495:=zM (zW hg (below_size zB0));have GE495:=zM (zW hg (below_size zB0));replace HB:=zM (below_step zB0 hb);clear hb hbox hg;have hcz23:=zc_5 (w:=w22) BK495.1)|(go_at_call 120;(with_reducible refine (impl_InsOk.calls a0_0 a0_1 a0_2 a0_3 a0_4 true _ A3.1).mono ?_);rintro e w24 ⟨rfl,hb⟩;replace BK495:=zM (zb BK495.1 hb);replace HB:=zM (below_step zB0 hb);clear hb;have hcz25:=zc_5 (w:=w24) BK495.1)|(go_at_call 121;(with_reducible refine (impl_aims.calls a0_0 a0_1 a0_2 a0_3 a0_4 false _ A5.1).mono ?_);rintro e w26 ⟨rfl,hb⟩;replace BK495:=zM (zb BK495.1 hb);replace HB:=zM (below_step zB0 hb);clear hb))
  repeat (go_quiet (first|((with_reducible refine gate_dst (N:=2) rfl ?_);(try (refine gate_guard (by rfl) ?_;dsimp only));(with_reducible refine zBx 2 109 #[.int .i64 a0_0,.int .i64 a0_1,.int .i64 a0_2,.int .i64 a0_3,.int .i64 a0_4] ?_);intro gb495 hg w22 hbox hb;have BK495:=zM hbox;have GW495:=zM (zW hg (below_size zB0));have GE495:=zM (zW hg (below_size zB0));replace HB:=zM (below_step zB0 hb);clear hb hbox hg;have hcz23:=zc_5 (w:=w22) BK495.1)|(go_at_call 120;(with_reducible refine (impl_InsOk.calls a0_0 a0_1 a0_2 a0_3 a0_4 true _ A3.1).mono ?_);rintro e w24 ⟨rfl,hb⟩;replace BK495:=zM (zb BK495.1 hb);replace HB:=zM (below_step zB0 hb);clear hb;have hcz25:=zc_5 (w:=w24) BK495.1)|(go_at_call 121;(with_reducible refine (impl_aims.calls a0_0 a0_1 a0_2 a0_3 a0_4 false _ A5.1).mono ?_);rintro e w26 ⟨rfl,hb⟩;replace BK495:=zM (zb BK495.1 hb);replace HB:=zM (below_step zB0 hb);clear hb));try go_wp2_with (first|((with_reducible refine gate_dst (N:=2) rfl ?_);(try (refine gate_guard (by rfl) ?_;dsimp only));(with_reducible refine zBx 2 109 #[.int .i64 a0_0,.int .i64 a0_1,.int .i64 a0_2,.int .i64 a0_3,.int .i64 a0_4] ?_);intro gb495 hg w22 hbox hb;have BK495:=zM hbox;have GW495:=zM (zW hg (below_size zB0));have GE495:=zM (zW hg (below_size zB0));replace HB:=zM (below_step zB0 hb);clear hb hbox hg;have hcz23:=zc_5 (w:=w22) BK495.1)|(go_at_call 120;(with_reducible refine (impl_InsOk.calls a0_0 a0_1 a0_2 a0_3 a0_4 true _ A3.1).mono ?_);rintro e w24 ⟨rfl,hb⟩;replace BK495:=zM (zb BK495.1 hb);replace HB:=zM (below_step zB0 hb);clear hb;have hcz25:=zc_5 (w:=w24) BK495.1)|(go_at_call 121;(with_reducible refine (impl_aims.calls a0_0 a0_1 a0_2 a0_3 a0_4 false _ A5.1).mono ?_);rintro e w26 ⟨rfl,hb⟩;replace BK495:=zM (zb BK495.1 hb);replace HB:=zM (below_step zB0 hb);clear hb)))
  go_ret
  exact ⟨zE,zB0⟩
 subst c6
 rw [if_pos rfl] at H
 by_cases c7:(l1.length:Int)=4
 rotate_left
 ·rw [if_neg c7] at H
  have c7b0:((l1.length:Int) == 4)=false:=beq_eq_false_iff_ne.mpr c7
  have c7b1:((l1.length:Int) != 4)=true:=bne_iff_ne.mpr c7
  obtain rfl:=Option.some.inj H
  go_enter Try.func102,Try.ntmps102
  go_wp2_with (first|((with_reducible refine gate_dst (N:=2) rfl ?_);(try (refine gate_guard (by rfl) ?_;dsimp only));(with_reducible refine zBx 2 109 #[.int .i64 a0_0,.int .i64 a0_1,.int .i64 a0_2,.int .i64 a0_3,.int .i64 a0_4] ?_);intro gb495 hg w17 hbox hb;have BK495:=zM hbox;have GW495:=zM (zW hg (below_size zB0));have GE495:=zM (zW hg (below_size zB0));replace HB:=zM (below_step zB0 hb);clear hb hbox hg;have hcz18:=zc_5 (w:=w17) BK495.1)|(go_at_call 120;(with_reducible refine (impl_InsOk.calls a0_0 a0_1 a0_2 a0_3 a0_4 true _ A3.1).mono ?_);rintro e w19 ⟨rfl,hb⟩;replace BK495:=zM (zb BK495.1 hb);replace HB:=zM (below_step zB0 hb);clear hb;have hcz20:=zc_5 (w:=w19) BK495.1)|(go_at_call 121;(with_reducible refine (impl_aims.calls a0_0 a0_1 a0_2 a0_3 a0_4 true _ A5.1).mono ?_);rintro e w21 ⟨rfl,hb⟩;replace BK495:=zM (zb BK495.1 hb);replace HB:=zM (below_step zB0 hb);clear hb))
  repeat (go_quiet (first|((with_reducible refine gate_dst (N:=2) rfl ?_);(try (refine gate_guard (by rfl) ?_;dsimp only));(with_reducible refine zBx 2 109 #[.int .i64 a0_0,.int .i64 a0_1,.int .i64 a0_2,.int .i64 a0_3,.int .i64 a0_4] ?_);intro gb495 hg w17 hbox hb;have BK495:=zM hbox;have GW495:=zM (zW hg (below_size zB0));have GE495:=zM (zW hg (below_size zB0));replace HB:=zM (below_step zB0 hb);clear hb hbox hg;have hcz18:=zc_5 (w:=w17) BK495.1)|(go_at_call 120;(with_reducible refine (impl_InsOk.calls a0_0 a0_1 a0_2 a0_3 a0_4 true _ A3.1).mono ?_);rintro e w19 ⟨rfl,hb⟩;replace BK495:=zM (zb BK495.1 hb);replace HB:=zM (below_step zB0 hb);clear hb;have hcz20:=zc_5 (w:=w19) BK495.1)|(go_at_call 121;(with_reducible refine (impl_aims.calls a0_0 a0_1 a0_2 a0_3 a0_4 true _ A5.1).mono ?_);rintro e w21 ⟨rfl,hb⟩;replace BK495:=zM (zb BK495.1 hb);replace HB:=zM (below_step zB0 hb);clear hb));try go_wp2_with (first|((with_reducible refine gate_dst (N:=2) rfl ?_);(try (refine gate_guard (by rfl) ?_;dsimp only));(with_reducible refine zBx 2 109 #[.int .i64 a0_0,.int .i64 a0_1,.int .i64 a0_2,.int .i64 a0_3,.int .i64 a0_4] ?_);intro gb495 hg w17 hbox hb;have BK495:=zM hbox;have GW495:=zM (zW hg (below_size zB0));have GE495:=zM (zW hg (below_size zB0));replace HB:=zM (below_step zB0 hb);clear hb hbox hg;have hcz18:=zc_5 (w:=w17) BK495.1)|(go_at_call 120;(with_reducible refine (impl_InsOk.calls a0_0 a0_1 a0_2 a0_3 a0_4 true _ A3.1).mono ?_);rintro e w19 ⟨rfl,hb⟩;replace BK495:=zM (zb BK495.1 hb);replace HB:=zM (below_step zB0 hb);clear hb;have hcz20:=zc_5 (w:=w19) BK495.1)|(go_at_call 121;(with_reducible refine (impl_aims.calls a0_0 a0_1 a0_2 a0_3 a0_4 true _ A5.1).mono ?_);rintro e w21 ⟨rfl,hb⟩;replace BK495:=zM (zb BK495.1 hb);replace HB:=zM (below_step zB0 hb);clear hb)))
  go_ret
  exact ⟨zE,zB0⟩
 rw [if_pos c7] at H
 have c7b0:((l1.length:Int) == 4)=true:=beq_iff_eq.mpr c7
 have c7b1:((l1.length:Int) != 4)=false:=bne_eq_false_iff_eq.mpr c7
 clear c7
 replace H:=zIt H
 obtain ⟨c8b0,H⟩:=H
 replace H:=zIt H
 obtain ⟨c9b0,H⟩:=H
 replace H:=zO H
 obtain ⟨t499,A10,H⟩:=H
 obtain rfl:=Option.some.inj H
 go_enter Try.func102,Try.ntmps102
 go_wp2_with (first|((with_reducible refine gate_dst (N:=2) rfl ?_);(try (refine gate_guard (by rfl) ?_;dsimp only));(with_reducible refine zBx 2 109 #[.int .i64 a0_0,.int .i64 a0_1,.int .i64 a0_2,.int .i64 a0_3,.int .i64 a0_4] ?_);intro gb495 hg w11 hbox hb;have BK495:=zM hbox;have GW495:=zM (zW hg (below_size zB0));have GE495:=zM (zW hg (below_size zB0));replace HB:=zM (below_step zB0 hb);clear hb hbox hg;have hcz12:=zc_5 (w:=w11) BK495.1)|(go_at_call 120;(with_reducible refine (impl_InsOk.calls a0_0 a0_1 a0_2 a0_3 a0_4 true _ A3.1).mono ?_);rintro e w13 ⟨rfl,hb⟩;replace BK495:=zM (zb BK495.1 hb);replace HB:=zM (below_step zB0 hb);clear hb;have hcz14:=zc_5 (w:=w13) BK495.1)|(go_at_call 121;(with_reducible refine (impl_aims.calls a0_0 a0_1 a0_2 a0_3 a0_4 true _ A5.1).mono ?_);rintro e w15 ⟨rfl,hb⟩;replace BK495:=zM (zb BK495.1 hb);replace HB:=zM (below_step zB0 hb);clear hb;have hcz16:=zc_5 (w:=w15) BK495.1;obtain ⟨p498,q498,ad498,e498,hx498_0⟩:=zRd (Kd.at_int HR1.1 a0_2);cases e498;replace hx498_0:=zHx HB.1 hx498_0)|(go_at_call 122;(with_reducible refine (impl_address.calls (wrap64 ((rd l1 a0_2)+a0_4)) t499 _ A10.1).mono ?_);rintro e w' ⟨rfl,⟨nd,rfl⟩⟩;(try first|exact ⟨rfl,_,World.drewN_drewN _ _ _⟩|exact ⟨rfl,_,Eq.trans (World.drewN_drewN _ _ _) (congrArg (World.drewN _) (Nat.add_assoc _ _ _))⟩)))
 repeat (go_quiet (first|((with_reducible refine gate_dst (N:=2) rfl ?_);(try (refine gate_guard (by rfl) ?_;dsimp only));(with_reducible refine zBx 2 109 #[.int .i64 a0_0,.int .i64 a0_1,.int .i64 a0_2,.int .i64 a0_3,.int .i64 a0_4] ?_);intro gb495 hg w11 hbox hb;have BK495:=zM hbox;have GW495:=zM (zW hg (below_size zB0));have GE495:=zM (zW hg (below_size zB0));replace HB:=zM (below_step zB0 hb);clear hb hbox hg;have hcz12:=zc_5 (w:=w11) BK495.1)|(go_at_call 120;(with_reducible refine (impl_InsOk.calls a0_0 a0_1 a0_2 a0_3 a0_4 true _ A3.1).mono ?_);rintro e w13 ⟨rfl,hb⟩;replace BK495:=zM (zb BK495.1 hb);replace HB:=zM (below_step zB0 hb);clear hb;have hcz14:=zc_5 (w:=w13) BK495.1)|(go_at_call 121;(with_reducible refine (impl_aims.calls a0_0 a0_1 a0_2 a0_3 a0_4 true _ A5.1).mono ?_);rintro e w15 ⟨rfl,hb⟩;replace BK495:=zM (zb BK495.1 hb);replace HB:=zM (below_step zB0 hb);clear hb;have hcz16:=zc_5 (w:=w15) BK495.1;obtain ⟨p498,q498,ad498,e498,hx498_0⟩:=zRd (Kd.at_int HR1.1 a0_2);cases e498;replace hx498_0:=zHx HB.1 hx498_0)|(go_at_call 122;(with_reducible refine (impl_address.calls (wrap64 ((rd l1 a0_2)+a0_4)) t499 _ A10.1).mono ?_);rintro e w' ⟨rfl,⟨nd,rfl⟩⟩;(try first|exact ⟨rfl,_,World.drewN_drewN _ _ _⟩|exact ⟨rfl,_,Eq.trans (World.drewN_drewN _ _ _) (congrArg (World.drewN _) (Nat.add_assoc _ _ _))⟩)));try go_wp2_with (first|((with_reducible refine gate_dst (N:=2) rfl ?_);(try (refine gate_guard (by rfl) ?_;dsimp only));(with_reducible refine zBx 2 109 #[.int .i64 a0_0,.int .i64 a0_1,.int .i64 a0_2,.int .i64 a0_3,.int .i64 a0_4] ?_);intro gb495 hg w11 hbox hb;have BK495:=zM hbox;have GW495:=zM (zW hg (below_size zB0));have GE495:=zM (zW hg (below_size zB0));replace HB:=zM (below_step zB0 hb);clear hb hbox hg;have hcz12:=zc_5 (w:=w11) BK495.1)|(go_at_call 120;(with_reducible refine (impl_InsOk.calls a0_0 a0_1 a0_2 a0_3 a0_4 true _ A3.1).mono ?_);rintro e w13 ⟨rfl,hb⟩;replace BK495:=zM (zb BK495.1 hb);replace HB:=zM (below_step zB0 hb);clear hb;have hcz14:=zc_5 (w:=w13) BK495.1)|(go_at_call 121;(with_reducible refine (impl_aims.calls a0_0 a0_1 a0_2 a0_3 a0_4 true _ A5.1).mono ?_);rintro e w15 ⟨rfl,hb⟩;replace BK495:=zM (zb BK495.1 hb);replace HB:=zM (below_step zB0 hb);clear hb;have hcz16:=zc_5 (w:=w15) BK495.1;obtain ⟨p498,q498,ad498,e498,hx498_0⟩:=zRd (Kd.at_int HR1.1 a0_2);cases e498;replace hx498_0:=zHx HB.1 hx498_0)|(go_at_call 122;(with_reducible refine (impl_address.calls (wrap64 ((rd l1 a0_2)+a0_4)) t499 _ A10.1).mono ?_);rintro e w' ⟨rfl,⟨nd,rfl⟩⟩;(try first|exact ⟨rfl,_,World.drewN_drewN _ _ _⟩|exact ⟨rfl,_,Eq.trans (World.drewN_drewN _ _ _) (congrArg (World.drewN _) (Nat.add_assoc _ _ _))⟩))))
 go_ret
 exact ⟨zE,zB0⟩

/-! ### impl_wrapped: function 123 -/
def impl_wrapped.f (a0:Int):Option (Int):=some (Int.tmod (wrap64 ((wrap64 ((Int.tmod a0 65536)+65535))+1)) 65536)
theorem impl_wrapped.calls (a0:Int) (r:Int) (w:World) (h:impl_wrapped.f a0=some r):
  Calls Try.prog 123 #[.int .i64 a0] w fun e w'=>e= .returned (.int .i64 r)∧Drawn0 w w':=by
 unfold impl_wrapped.f at h
 have H:=h
 clear h
 obtain rfl:=Option.some.inj H
 go_enter Try.func123,Try.ntmps123
 go_wp2
 go_ret
 exact ⟨zJJ,zDD⟩

end Go.Proofs.Ytpcgecacaemalaa.PFnStops
