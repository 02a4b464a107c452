-- made by wip/tools/myprint.py out of the seat's translation
import Derived.Test.YtaakcbgpmabaaaaPFnSeenx0
import Derived.Test.YtaakcbgpmabaaaaPFnSeenx2
import Derived.Test.YtaakcbgpmabaaaaPFnSeenx3
namespace Go.Proofs.Ytaakcbgpmabaaaa.PFnSeen
open Go.RowKit Go.Proofs.YtaakcbgpmabaaaaW.PrintWords Go.Proofs.YtaakcbgpmabaaaaW.PrintLast Go.Proofs.YtaakcbgpmabaaaaW.PrintMore
attribute [local go_sem] max2_int min2_int max_two min_two max_three min_three max_four min_four -- for this text's walks alone
set_option linter.unusedVariables false
set_option linter.unusedSimpArgs false
set_option maxHeartbeats 8000000
set_option maxRecDepth 100000

/-! ### spec_Target: function 109 -/
def spec_Target.f (a0_0:Int) (a0_1:Int) (a0_2:Int) (a0_3:Int) (a0_4:Int) (l1:List Int):Option (Int):=(spec_InsOk.f a0_0 a0_1 a0_2 a0_3 a0_4).bind fun t511=>(if t511=true then (if (l1.length:Int)=4 then (if a0_0=4 then (if 0≤a0_2 then (if a0_2<(l1.length:Int) then ((spec_l9Address.f (wrap64 ((rd l1 a0_2)+a0_4))).bind fun t513=>(some t513)) else (none)) else (none)) else (if a0_0=5 then (if 0≤a0_2 then (if a0_2<(l1.length:Int) then ((spec_l9Address.f (wrap64 ((rd l1 a0_2)+a0_4))).bind fun t515=>(some t515)) else (none)) else (none)) else (if a0_0=6 then (if 0≤a0_2 then (if a0_2<(l1.length:Int) then ((spec_l9Address.f (wrap64 ((rd l1 a0_2)+a0_4))).bind fun t517=>(some t517)) else (none)) else (none)) else (some (-1))))) else (some (-1))) else (some (-1)))
theorem spec_Target.calls (a0_0:Int) (a0_1:Int) (a0_2:Int) (a0_3:Int) (a0_4:Int) (A1:Option Addr) (c1:Nat) (l1:List Int) (r:Int) (w:World) (hr1:Kd.C (Kd.int .i64) w A1 l1.length l1) (hc1:l1.length≤c1) (h:spec_Target.f a0_0 a0_1 a0_2 a0_3 a0_4 l1=some r):
  Calls Try.prog 109 #[.agg #[.int .i64 a0_0,.int .i64 a0_1,.int .i64 a0_2,.int .i64 a0_3,.int .i64 a0_4],.slice A1 l1.length c1] w fun e w'=>e= .returned (.int .i64 r)∧Below w.heap.size w w':=by
 have hu57:=Try.underlying57
 have HR1:=zM hr1
 have HC1:=zM hc1
 clear hr1 hc1
 have HB:=zM (Below.refl w.heap.size w)
 unfold spec_Target.f at h
 have H:=h
 clear h
 replace H:=zO H
 obtain ⟨t511,A3,H⟩:=H
 by_cases c4:t511=true
 rotate_left
 ·replace c4:=Bool.eq_false_iff.mpr c4
  subst c4
  rw [if_neg zF] at H
  obtain rfl:=Option.some.inj H
  go_enter Try.func109,Try.ntmps109
  go_wp2_with (first|((with_reducible refine gate_dst (N:=2) rfl ?_);(try (refine gate_guard (by rfl) ?_;dsimp only));(with_reducible refine zBx 2 57 #[.int .i64 a0_0,.int .i64 a0_1,.int .i64 a0_2,.int .i64 a0_3,.int .i64 a0_4] ?_);intro gb510 hg w37 hbox hb;have BK510:=zM hbox;have GW510:=zM (zW hg (below_size zB3));have GE510:=zM (zW hg (below_size zB3));replace HB:=zM (below_step zB3 hb);clear hb hbox hg;have hcz38:=zc_5 (w:=w37) BK510.1)|(go_at_call 66;(with_reducible refine (spec_InsOk.calls a0_0 a0_1 a0_2 a0_3 a0_4 false _ A3.1).mono ?_);rintro e w39 ⟨rfl,hb⟩;replace BK510:=zM (zb BK510.1 hb);replace HB:=zM (below_step zB3 hb);clear hb))
  repeat (go_quiet (first|((with_reducible refine gate_dst (N:=2) rfl ?_);(try (refine gate_guard (by rfl) ?_;dsimp only));(with_reducible refine zBx 2 57 #[.int .i64 a0_0,.int .i64 a0_1,.int .i64 a0_2,.int .i64 a0_3,.int .i64 a0_4] ?_);intro gb510 hg w37 hbox hb;have BK510:=zM hbox;have GW510:=zM (zW hg (below_size zB3));have GE510:=zM (zW hg (below_size zB3));replace HB:=zM (below_step zB3 hb);clear hb hbox hg;have hcz38:=zc_5 (w:=w37) BK510.1)|(go_at_call 66;(with_reducible refine (spec_InsOk.calls a0_0 a0_1 a0_2 a0_3 a0_4 false _ A3.1).mono ?_);rintro e w39 ⟨rfl,hb⟩;replace BK510:=zM (zb BK510.1 hb);replace HB:=zM (below_step zB3 hb);clear hb));try go_wp2_with (first|((with_reducible refine gate_dst (N:=2) rfl ?_);(try (refine gate_guard (by rfl) ?_;dsimp only));(with_reducible refine zBx 2 57 #[.int .i64 a0_0,.int .i64 a0_1,.int .i64 a0_2,.int .i64 a0_3,.int .i64 a0_4] ?_);intro gb510 hg w37 hbox hb;have BK510:=zM hbox;have GW510:=zM (zW hg (below_size zB3));have GE510:=zM (zW hg (below_size zB3));replace HB:=zM (below_step zB3 hb);clear hb hbox hg;have hcz38:=zc_5 (w:=w37) BK510.1)|(go_at_call 66;(with_reducible refine (spec_InsOk.calls a0_0 a0_1 a0_2 a0_3 a0_4 false _ A3.1).mono ?_);rintro e w39 ⟨rfl,hb⟩;replace BK510:=zM (zb BK510.1 hb);replace HB:=zM (below_step zB3 hb);clear hb)))
  go_ret
  exact ⟨zE,zB3⟩
 subst c4
 rw [if_pos rfl] at H
 by_cases c5:(l1.length:Int)=4
 rotate_left
 ·rw [if_neg c5] at H
  have c5b0:((l1.length:Int) == 4)=false:=beq_eq_false_iff_ne.mpr c5
  have c5b1:((l1.length:Int) != 4)=true:=bne_iff_ne.mpr c5
  obtain rfl:=Option.some.inj H
  go_enter Try.func109,Try.ntmps109
  go_wp2_with (first|((with_reducible refine gate_dst (N:=2) rfl ?_);(try (refine gate_guard (by rfl) ?_;dsimp only));(with_reducible refine zBx 2 57 #[.int .i64 a0_0,.int .i64 a0_1,.int .i64 a0_2,.int .i64 a0_3,.int .i64 a0_4] ?_);intro gb510 hg w34 hbox hb;have BK510:=zM hbox;have GW510:=zM (zW hg (below_size zB3));have GE510:=zM (zW hg (below_size zB3));replace HB:=zM (below_step zB3 hb);clear hb hbox hg;have hcz35:=zc_5 (w:=w34) BK510.1)|(go_at_call 66;(with_reducible refine (spec_InsOk.calls a0_0 a0_1 a0_2 a0_3 a0_4 true _ A3.1).mono ?_);rintro e w36 ⟨rfl,hb⟩;replace BK510:=zM (zb BK510.1 hb);replace HB:=zM (below_step zB3 hb);clear hb))
  repeat (go_quiet (first|((with_reducible refine gate_dst (N:=2) rfl ?_);(try (refine gate_guard (by rfl) ?_;dsimp only));(with_reducible refine zBx 2 57 #[.int .i64 a0_0,.int .i64 a0_1,.int .i64 a0_2,.int .i64 a0_3,.int .i64 a0_4] ?_);intro gb510 hg w34 hbox hb;have BK510:=zM hbox;have GW510:=zM (zW hg (below_size zB3));have GE510:=zM (zW hg (below_size zB3));replace HB:=zM (below_step zB3 hb);clear hb hbox hg;have hcz35:=zc_5 (w:=w34) BK510.1)|(go_at_call 66;(with_reducible refine (spec_InsOk.calls a0_0 a0_1 a0_2 a0_3 a0_4 true _ A3.1).mono ?_);rintro e w36 ⟨rfl,hb⟩;replace BK510:=zM (zb BK510.1 hb);replace HB:=zM (below_step zB3 hb);clear hb));try go_wp2_with (first|((with_reducible refine gate_dst (N:=2) rfl ?_);(try (refine gate_guard (by rfl) ?_;dsimp only));(with_reducible refine zBx 2 57 #[.int .i64 a0_0,.int .i64 a0_1,.int .i64 a0_2,.int .i64 a0_3,.int .i64 a0_4] ?_);intro gb510 hg w34 hbox hb;have BK510:=zM hbox;have GW510:=zM (zW hg (below_size zB3));have GE510:=zM (zW hg (below_size zB3));replace HB:=zM (below_step zB3 hb);clear hb hbox hg;have hcz35:=zc_5 (w:=w34) BK510.1)|(go_at_call 66;(with_reducible refine (spec_InsOk.calls a0_0 a0_1 a0_2 a0_3 a0_4 true _ A3.1).mono ?_);rintro e w36 ⟨rfl,hb⟩;replace BK510:=zM (zb BK510.1 hb);replace HB:=zM (below_step zB3 hb);clear hb)))
  go_ret
  exact ⟨zE,zB3⟩
 rw [if_pos c5] at H
 have c5b0:((l1.length:Int) == 4)=true:=beq_iff_eq.mpr c5
 have c5b1:((l1.length:Int) != 4)=false:=bne_eq_false_iff_eq.mpr c5
 clear c5
 by_cases c6:a0_0=4
 ·rw [if_pos c6] at H
  have c6b0:(a0_0 == 4)=true:=beq_iff_eq.mpr c6
  have c6b1:(a0_0 != 4)=false:=bne_eq_false_iff_eq.mpr c6
  clear c6
  replace H:=zIt H
  obtain ⟨c7b0,H⟩:=H
  replace H:=zIt H
  obtain ⟨c8b0,H⟩:=H
  replace H:=zO H
  obtain ⟨t513,A9,H⟩:=H
  obtain rfl:=Option.some.inj H
  go_enter Try.func109,Try.ntmps109
  go_wp2_with (first|((with_reducible refine gate_dst (N:=2) rfl ?_);(try (refine gate_guard (by rfl) ?_;dsimp only));(with_reducible refine zBx 2 57 #[.int .i64 a0_0,.int .i64 a0_1,.int .i64 a0_2,.int .i64 a0_3,.int .i64 a0_4] ?_);intro gb510 hg w10 hbox hb;have BK510:=zM hbox;have GW510:=zM (zW hg (below_size zB3));have GE510:=zM (zW hg (below_size zB3));replace HB:=zM (below_step zB3 hb);clear hb hbox hg;have hcz11:=zc_5 (w:=w10) BK510.1)|(go_at_call 66;(with_reducible refine (spec_InsOk.calls a0_0 a0_1 a0_2 a0_3 a0_4 true _ A3.1).mono ?_);rintro e w12 ⟨rfl,hb⟩;replace BK510:=zM (zb BK510.1 hb);replace HB:=zM (below_step zB3 hb);clear hb;have hcz13:=zc_5 (w:=w12) BK510.1;obtain ⟨p512,q512,ad512,e512,hx512_0⟩:=zRd (Kd.at_int HR1.1 a0_2);cases e512;replace hx512_0:=zHx HB.1 hx512_0)|(go_at_call 102;(with_reducible refine (spec_l9Address.calls (wrap64 ((rd l1 a0_2)+a0_4)) t513 _ A9.1).mono ?_);rintro e w' ⟨rfl,⟨nd,rfl⟩⟩;(try first|exact ⟨rfl,_,World.drewN_drewN _ _ _⟩|exact ⟨rfl,_,Eq.trans (World.drewN_drewN _ _ _) (congrArg (World.drewN _) (Nat.add_assoc _ _ _))⟩)))
  repeat (go_quiet (first|((with_reducible refine gate_dst (N:=2) rfl ?_);(try (refine gate_guard (by rfl) ?_;dsimp only));(with_reducible refine zBx 2 57 #[.int .i64 a0_0,.int .i64 a0_1,.int .i64 a0_2,.int .i64 a0_3,.int .i64 a0_4] ?_);intro gb510 hg w10 hbox hb;have BK510:=zM hbox;have GW510:=zM (zW hg (below_size zB3));have GE510:=zM (zW hg (below_size zB3));replace HB:=zM (below_step zB3 hb);clear hb hbox hg;have hcz11:=zc_5 (w:=w10) BK510.1)|(go_at_call 66;(with_reducible refine (spec_InsOk.calls a0_0 a0_1 a0_2 a0_3 a0_4 true _ A3.1).mono ?_);rintro e w12 ⟨rfl,hb⟩;replace BK510:=zM (zb BK510.1 hb);replace HB:=zM (below_step zB3 hb);clear hb;have hcz13:=zc_5 (w:=w12) BK510.1;obtain ⟨p512,q512,ad512,e512,hx512_0⟩:=zRd (Kd.at_int HR1.1 a0_2);cases e512;replace hx512_0:=zHx HB.1 hx512_0)|(go_at_call 102;(with_reducible refine (spec_l9Address.calls (wrap64 ((rd l1 a0_2)+a0_4)) t513 _ A9.1).mono ?_);rintro e w' ⟨rfl,⟨nd,rfl⟩⟩;(try first|exact ⟨rfl,_,World.drewN_drewN _ _ _⟩|exact ⟨rfl,_,Eq.trans (World.drewN_drewN _ _ _) (congrArg (World.drewN _) (Nat.add_assoc _ _ _))⟩)));try go_wp2_with (first|((with_reducible refine gate_dst (N:=2) rfl ?_);(try (refine gate_guard (by rfl) ?_;dsimp only));(with_reducible refine zBx 2 57 #[.int .i64 a0_0,.int .i64 a0_1,.int .i64 a0_2,.int .i64 a0_3,.int .i64 a0_4] ?_);intro gb510 hg w10 hbox hb;have BK510:=zM hbox;have GW510:=zM (zW hg (below_size zB3));have GE510:=zM (zW hg (below_size zB3));replace HB:=zM (below_step zB3 hb);clear hb hbox hg;have hcz11:=zc_5 (w:=w10) BK510.1)|(go_at_call 66;(with_reducible refine (spec_InsOk.calls a0_0 a0_1 a0_2 a0_3 a0_4 true _ A3.1).mono ?_);rintro e w12 ⟨rfl,hb⟩;replace BK510:=zM (zb BK510.1 hb);replace HB:=zM (below_step zB3 hb);clear hb;have hcz13:=zc_5 (w:=w12) BK510.1;obtain ⟨p512,q512,ad512,e512,hx512_0⟩:=zRd (Kd.at_int HR1.1 a0_2);cases e512;replace hx512_0:=zHx HB.1 hx512_0)|(go_at_call 102;(with_reducible refine (spec_l9Address.calls (wrap64 ((rd l1 a0_2)+a0_4)) t513 _ A9.1).mono ?_);rintro e w' ⟨rfl,⟨nd,rfl⟩⟩;(try first|exact ⟨rfl,_,World.drewN_drewN _ _ _⟩|exact ⟨rfl,_,Eq.trans (World.drewN_drewN _ _ _) (congrArg (World.drewN _) (Nat.add_assoc _ _ _))⟩))))
  go_ret
  exact ⟨zE,zB3⟩
 rw [if_neg c6] at H
 have c6b0:(a0_0 == 4)=false:=beq_eq_false_iff_ne.mpr c6
 have c6b1:(a0_0 != 4)=true:=bne_iff_ne.mpr c6
 by_cases c14:a0_0=5
 ·rw [if_pos c14] at H
  have c14b0:(a0_0 == 5)=true:=beq_iff_eq.mpr c14
  have c14b1:(a0_0 != 5)=false:=bne_eq_false_iff_eq.mpr c14
  clear c14
  replace H:=zIt H
  obtain ⟨c15b0,H⟩:=H
  replace H:=zIt H
  obtain ⟨c16b0,H⟩:=H
  replace H:=zO H
  obtain ⟨t515,A17,H⟩:=H
  obtain rfl:=Option.some.inj H
  go_enter Try.func109,Try.ntmps109
  go_wp2_with (first|((with_reducible refine gate_dst (N:=2) rfl ?_);(try (refine gate_guard (by rfl) ?_;dsimp only));(with_reducible refine zBx 2 57 #[.int .i64 a0_0,.int .i64 a0_1,.int .i64 a0_2,.int .i64 a0_3,.int .i64 a0_4] ?_);intro gb510 hg w18 hbox hb;have BK510:=zM hbox;have GW510:=zM (zW hg (below_size zB3));have GE510:=zM (zW hg (below_size zB3));replace HB:=zM (below_step zB3 hb);clear hb hbox hg;have hcz19:=zc_5 (w:=w18) BK510.1)|(go_at_call 66;(with_reducible refine (spec_InsOk.calls a0_0 a0_1 a0_2 a0_3 a0_4 true _ A3.1).mono ?_);rintro e w20 ⟨rfl,hb⟩;replace BK510:=zM (zb BK510.1 hb);replace HB:=zM (below_step zB3 hb);clear hb;have hcz21:=zc_5 (w:=w20) BK510.1;obtain ⟨p514,q514,ad514,e514,hx514_0⟩:=zRd (Kd.at_int HR1.1 a0_2);cases e514;replace hx514_0:=zHx HB.1 hx514_0)|(go_at_call 102;(with_reducible refine (spec_l9Address.calls (wrap64 ((rd l1 a0_2)+a0_4)) t515 _ A17.1).mono ?_);rintro e w' ⟨rfl,⟨nd,rfl⟩⟩;(try first|exact ⟨rfl,_,World.drewN_drewN _ _ _⟩|exact ⟨rfl,_,Eq.trans (World.drewN_drewN _ _ _) (congrArg (World.drewN _) (Nat.add_assoc _ _ _))⟩)))
  repeat (go_quiet (first|((with_reducible refine gate_dst (N:=2) rfl ?_);(try (refine gate_guard (by rfl) ?_;dsimp only));(with_reducible refine zBx 2 57 #[.int .i64 a0_0,.int .i64 a0_1,.int .i64 a0_2,.int .i64 a0_3,.int .i64 a0_4] ?_);intro gb510 hg w18 hbox hb;have BK510:=zM hbox;have GW510:=zM (zW hg (below_size zB3));have GE510:=zM (zW hg (below_size zB3));replace HB:=zM (below_step zB3 hb);clear hb hbox hg;have hcz19:=zc_5 (w:=w18) BK510.1)|(go_at_call 66;(with_reducible refine (spec_InsOk.calls a0_0 a0_1 a0_2 a0_3 a0_4 true _ A3.1).mono ?_);rintro e w20 ⟨rfl,hb⟩;replace BK510:=zM (zb BK510.1 hb);replace HB:=zM (below_step zB3 hb);clear hb;have hcz21:=zc_5 (w:=w20) BK510.1;obtain ⟨p514,q514,ad514,e514,hx514_0⟩:=zRd (Kd.at_int HR1.1 a0_2);cases e514;replace hx514_0:=zHx HB.1 hx514_0)|(go_at_call 102;(with_reducible refine (spec_l9Address.calls (wrap64 ((rd l1 a0_2)+a0_4)) t515 _ A17.1).mono ?_);rintro e w' ⟨rfl,⟨nd,rfl⟩⟩;(try first|exact ⟨rfl,_,World.drewN_drewN _ _ _⟩|exact ⟨rfl,_,Eq.trans (World.drewN_drewN _ _ _) (congrArg (World.drewN _) (Nat.add_assoc _ _ _))⟩)));try go_wp2_with (first|((with_reducible refine gate_dst (N:=2) rfl ?_);(try (refine gate_guard (by rfl) ?_;dsimp only));(with_reducible refine zBx 2 57 #[.int .i64 a0_0,.int .i64 a0_1,.int .i64 a0_2,.int .i64 a0_3,.int .i64 a0_4] ?_);intro gb510 hg w18 hbox hb;have BK510:=zM hbox;have GW510:=zM (zW hg (below_size zB3));have GE510:=zM (zW hg (below_size zB3));replace HB:=zM (below_step zB3 hb);clear hb hbox hg;have hcz19:=zc_5 (w:=w18) BK510.1)|(go_at_call 66;(with_reducible refine (spec_InsOk.calls a0_0 a0_1 a0_2 a0_3 a0_4 true _ A3.1).mono ?_);rintro e w20 ⟨rfl,hb⟩;replace BK510:=zM (zb BK510.1 hb);replace HB:=zM (below_step zB3 hb);clear hb;have hcz21:=zc_5 (w:=w20) BK510.1;obtain ⟨p514,q514,ad514,e514,hx514_0⟩:=zRd (Kd.at_int HR1.1 a0_2);cases e514;replace hx514_0:=zHx HB.1 hx514_0)|(go_at_call 102;(with_reducible refine (spec_l9Address.calls (wrap64 ((rd l1 a0_2)+a0_4)) t515 _ A17.1).mono ?_);rintro e w' ⟨rfl,⟨nd,rfl⟩⟩;(try first|exact ⟨rfl,_,World.drewN_drewN _ _ _⟩|exact ⟨rfl,_,Eq.trans (World.drewN_drewN _ _ _) (congrArg (World.drewN _) (Nat.add_assoc _ _ _))⟩))))
  go_ret
  exact ⟨zE,zB3⟩
 rw [if_neg c14] at H
 have c14b0:(a0_0 == 5)=false:=beq_eq_false_iff_ne.mpr c14
 have c14b1:(a0_0 != 5)=true:=bne_iff_ne.mpr c14
 by_cases c22:a0_0=6
 rotate_left
 ·rw [if_neg c22] at H
  have c22b0:(a0_0 == 6)=false:=beq_eq_false_iff_ne.mpr c22
  have c22b1:(a0_0 != 6)=true:=bne_iff_ne.mpr c22
  obtain rfl:=Option.some.inj H
  go_enter Try.func109,Try.ntmps109
  go_wp2_with (first|((with_reducible refine gate_dst (N:=2) rfl ?_);(try (refine gate_guard (by rfl) ?_;dsimp only));(with_reducible refine zBx 2 57 #[.int .i64 a0_0,.int .i64 a0_1,.int .i64 a0_2,.int .i64 a0_3,.int .i64 a0_4] ?_);intro gb510 hg w30 hbox hb;have BK510:=zM hbox;have GW510:=zM (zW hg (below_size zB3));have GE510:=zM (zW hg (below_size zB3));replace HB:=zM (below_step zB3 hb);clear hb hbox hg;have hcz31:=zc_5 (w:=w30) BK510.1)|(go_at_call 66;(with_reducible refine (spec_InsOk.calls a0_0 a0_1 a0_2 a0_3 a0_4 true _ A3.1).mono ?_);rintro e w32 ⟨rfl,hb⟩;replace BK510:=zM (zb BK510.1 hb);replace HB:=zM (below_step zB3 hb);clear hb;have hcz33:=zc_5 (w:=w32) BK510.1))
  repeat (go_quiet (first|((with_reducible refine gate_dst (N:=2) rfl ?_);(try (refine gate_guard (by rfl) ?_;dsimp only));(with_reducible refine zBx 2 57 #[.int .i64 a0_0,.int .i64 a0_1,.int .i64 a0_2,.int .i64 a0_3,.int .i64 a0_4] ?_);intro gb510 hg w30 hbox hb;have BK510:=zM hbox;have GW510:=zM (zW hg (below_size zB3));have GE510:=zM (zW hg (below_size zB3));replace HB:=zM (below_step zB3 hb);clear hb hbox hg;have hcz31:=zc_5 (w:=w30) BK510.1)|(go_at_call 66;(with_reducible refine (spec_InsOk.calls a0_0 a0_1 a0_2 a0_3 a0_4 true _ A3.1).mono ?_);rintro e w32 ⟨rfl,hb⟩;replace BK510:=zM (zb BK510.1 hb);replace HB:=zM (below_step zB3 hb);clear hb;have hcz33:=zc_5 (w:=w32) BK510.1));try go_wp2_with (first|((with_reducible refine gate_dst (N:=2) rfl ?_);(try (refine gate_guard (by rfl) ?_;dsimp only));(with_reducible refine zBx 2 57 #[.int .i64 a0_0,.int .i64 a0_1,.int .i64 a0_2,.int .i64 a0_3,.int .i64 a0_4] ?_);intro gb510 hg w30 hbox hb;have BK510:=zM hbox;have GW510:=zM (zW hg (below_size zB3));have GE510:=zM (zW hg (below_size zB3));replace HB:=zM (below_step zB3 hb);clear hb hbox hg;have hcz31:=zc_5 (w:=w30) BK510.1)|(go_at_call 66;(with_reducible refine (spec_InsOk.calls a0_0 a0_1 a0_2 a0_3 a0_4 true _ A3.1).mono ?_);rintro e w32 ⟨rfl,hb⟩;replace BK510:=zM (zb BK510.1 hb);replace HB:=zM (below_step zB3 hb);clear hb;have hcz33:=zc_5 (w:=w32) BK510.1)))
  go_ret
  exact ⟨zE,zB3⟩
 rw [if_pos c22] at H
 have c22b0:(a0_0 == 6)=true:=beq_iff_eq.mpr c22
 have c22b1:(a0_0 != 6)=false:=bne_eq_false_iff_eq.mpr c22
 clear c22
 replace H:=zIt H
 obtain ⟨c23b0,H⟩:=H
 replace H:=zIt H
 obtain ⟨c24b0,H⟩:=H
 replace H:=zO H
 obtain ⟨t517,A25,H⟩:=H
 obtain rfl:=Option.some.inj H
 go_enter Try.func109,Try.ntmps109
 go_wp2_with (first|((with_reducible refine gate_dst (N:=2) rfl ?_);(try (refine gate_guard (by rfl) ?_;dsimp only));(with_reducible refine zBx 2 57 #[.int .i64 a0_0,.int .i64 a0_1,.int .i64 a0_2,.int .i64 a0_3,.int .i64 a0_4] ?_);intro gb510 hg w26 hbox hb;have BK510:=zM hbox;have GW510:=zM (zW hg (below_size zB3));have GE510:=zM (zW hg (below_size zB3));replace HB:=zM (below_step zB3 hb);clear hb hbox hg;have hcz27:=zc_5 (w:=w26) BK510.1)|(go_at_call 66;(with_reducible refine (spec_InsOk.calls a0_0 a0_1 a0_2 a0_3 a0_4 true _ A3.1).mono ?_);rintro e w28 ⟨rfl,hb⟩;replace BK510:=zM (zb BK510.1 hb);replace HB:=zM (below_step zB3 hb);clear hb;have hcz29:=zc_5 (w:=w28) BK510.1;obtain ⟨p516,q516,ad516,e516,hx516_0⟩:=zRd (Kd.at_int HR1.1 a0_2);cases e516;replace hx516_0:=zHx HB.1 hx516_0)|(go_at_call 102;(with_reducible refine (spec_l9Address.calls (wrap64 ((rd l1 a0_2)+a0_4)) t517 _ A25.1).mono ?_);rintro e w' ⟨rfl,⟨nd,rfl⟩⟩;(try first|exact ⟨rfl,_,World.drewN_drewN _ _ _⟩|exact ⟨rfl,_,Eq.trans (World.drewN_drewN _ _ _) (congrArg (World.drewN _) (Nat.add_assoc _ _ _))⟩)))
 repeat (go_quiet (first|((with_reducible refine gate_dst (N:=2) rfl ?_);(try (refine gate_guard (by rfl) ?_;dsimp only));(with_reducible refine zBx 2 57 #[.int .i64 a0_0,.int .i64 a0_1,.int .i64 a0_2,.int .i64 a0_3,.int .i64 a0_4] ?_);intro gb510 hg w26 hbox hb;have BK510:=zM hbox;have GW510:=zM (zW hg (below_size zB3));have GE510:=zM (zW hg (below_size zB3));replace HB:=zM (below_step zB3 hb);clear hb hbox hg;have hcz27:=zc_5 (w:=w26) BK510.1)|(go_at_call 66;(with_reducible refine (spec_InsOk.calls a0_0 a0_1 a0_2 a0_3 a0_4 true _ A3.1).mono ?_);rintro e w28 ⟨rfl,hb⟩;replace BK510:=zM (zb BK510.1 hb);replace HB:=zM (below_step zB3 hb);clear hb;have hcz29:=zc_5 (w:=w28) BK510.1;obtain ⟨p516,q516,ad516,e516,hx516_0⟩:=zRd (Kd.at_int HR1.1 a0_2);cases e516;replace hx516_0:=zHx HB.1 hx516_0)|(go_at_call 102;(with_reducible refine (spec_l9Address.calls (wrap64 ((rd l1 a0_2)+a0_4)) t517 _ A25.1).mono ?_);rintro e w' ⟨rfl,⟨nd,rfl⟩⟩;(try first|exact ⟨rfl,_,World.drewN_drewN _ _ _⟩|exact ⟨rfl,_,Eq.trans (World.drewN_drewN _ _ _) (congrArg (World.drewN _) (Nat.add_assoc _ _ _))⟩)));try go_wp2_with (first|((with_reducible refine gate_dst (N:=2) rfl ?_);(try (refine gate_guard (by rfl) ?_;dsimp only));(with_reducible refine zBx 2 57 #[.int .i64 a0_0,.int .i64 a0_1,.int .i64 a0_2,.int .i64 a0_3,.int .i64 a0_4] ?_);intro gb510 hg w26 hbox hb;have BK510:=zM hbox;have GW510:=zM (zW hg (below_size zB3));have GE510:=zM (zW hg (below_size zB3));replace HB:=zM (below_step zB3 hb);clear hb hbox hg;have hcz27:=zc_5 (w:=w26) BK510.1)|(go_at_call 66;(with_reducible refine (spec_InsOk.calls a0_0 a0_1 a0_2 a0_3 a0_4 true _ A3.1).mono ?_);rintro e w28 ⟨rfl,hb⟩;replace BK510:=zM (zb BK510.1 hb);replace HB:=zM (below_step zB3 hb);clear hb;have hcz29:=zc_5 (w:=w28) BK510.1;obtain ⟨p516,q516,ad516,e516,hx516_0⟩:=zRd (Kd.at_int HR1.1 a0_2);cases e516;replace hx516_0:=zHx HB.1 hx516_0)|(go_at_call 102;(with_reducible refine (spec_l9Address.calls (wrap64 ((rd l1 a0_2)+a0_4)) t517 _ A25.1).mono ?_);rintro e w' ⟨rfl,⟨nd,rfl⟩⟩;(try first|exact ⟨rfl,_,World.drewN_drewN _ _ _⟩|exact ⟨rfl,_,Eq.trans (World.drewN_drewN _ _ _) (congrArg (World.drewN _) (Nat.add_assoc _ _ _))⟩))))
 go_ret
 exact ⟨zE,zB3⟩

/-! ### spec_l9Copy: function 111 -/
def spec_l9Copy.f (l0_0:List Int) (a0_1:Int) (a0_2:Int):Option (List Int×Int×Int):=(some (([]:List Int):List Int)).bind fun y520=>(if y520.length+l0_0.length<17592186044416 then (some ((y520++l0_0),a0_1,a0_2)) else (none))
theorem spec_l9Copy.calls (A0_0:Option Addr) (c0_0:Nat) (l0_0:List Int) (a0_1:Int) (a0_2:Int) (r1:List Int) (r2:Int) (r3:Int) (w:World) (hr0_0:Kd.C (Kd.int .i64) w A0_0 l0_0.length l0_0) (hc0_0:l0_0.length≤c0_0) (h:spec_l9Copy.f l0_0 a0_1 a0_2=some (r1,r2,r3)):
  Calls Try.prog 111 #[.agg #[.slice A0_0 l0_0.length c0_0,.int .i64 a0_1,.int .i64 a0_2]] w fun e w'=>∃v0_:Value,e= .returned (.agg #[v0_,.int .i64 r2,.int .i64 r3])∧Kd.R (Kd.int .i64) 3 w' w.heap.size (fun _=>True) v0_ r1∧Below w.heap.size w w':=by
 have hu72:=Try.underlying72
 have HR0_0:=zM hr0_0
 have HC0_0:=zM hc0_0
 clear hr0_0 hc0_0
 have HB:=zM (Below.refl w.heap.size w)
 unfold spec_l9Copy.f at h
 have H:=h
 clear h
 replace H:=zY H
 obtain ⟨y520,Ny520,H⟩:=H
 replace H:=zIn H
 obtain ⟨LMc2,H⟩:=H
 generalize hy523:((y520++l0_0):List Int)=y523 at H
 have Ny523:=zM hy523.symm
 clear hy523
 simp only [Option.some.injEq,Prod.mk.injEq] at H
 obtain ⟨rfl,rfl,rfl⟩:=H
 go_enter Try.func111,Try.ntmps111
 go_wp2_with (first|((with_reducible refine zBx 1 72 #[.slice A0_0 l0_0.length c0_0,.int .i64 a0_1,.int .i64 a0_2] ?_);intro gb518 hg w3 hbox hb;have BK518:=zM hbox;have GW518:=zM (zW hg (below_size zB3));have GE518:=zM (zW hg (below_size zB3));replace HB:=zM (below_step zB3 hb);clear hb hbox hg)|((with_reducible refine zBx 2 72 #[.slice none 0 0,.int .i64 0,.int .i64 0] ?_);intro gb519 hg w4 hbox hb;have BK519:=zM hbox;have GW519:=zM (zW hg (below_size zB3));have GE519:=zM (zW hg (below_size zB3));replace HB:=zM (below_step zB3 hb);have NB518_519:=zM ((zn BK518.1 hg:gb518≠gb519));have NB519_518:=zM ((zm BK518.1 hg:gb519≠gb518));replace BK518:=zM (zb BK518.1 hb);clear hb hbox hg)|((with_reducible refine gate_dst (N:=3) rfl ?_);refine Kd.R_lit (Kd.int .i64) _ 3 ?hg (N:=3) ?hd (xs:=([]:List Int)) (inner:=[]) (ok:=fun _=>True) (okp:=fun _=>True) ?hr ?hp (fun _ hk=>hk) trivial (Below.refl _ _) (Nat.le_refl _) (by simp) ?_;(case hd=>rfl);(case hg=>rfl);(case hr=>exact zHH);(case hp=>exact (Reps.none _ _));intro v521 w5 ho6 hb hg_ hnew_;clear hg_ hnew_;(first|rw [←Ny520.1] at ho6|(simp only [Int.reduceToNat] at ho6;rw [←Ny520.1] at ho6));have HO522:=zM (Kd.R_lower ho6 (below_size zB3));replace BK518:=zM (zb BK518.1 hb);replace BK519:=zM (zb BK519.1 hb);replace HB:=zM (below_step zB3 hb);clear hb ho6;have hnb7:=NB518_519.1;have hnc7:=NB519_518.1;have hcz8:=zc_3 (w:=w5) BK518.1)|((with_reducible refine gate_builtin (b:= .append) (xs:=#[.tmp 3,.tmp 5]) rfl ?_);at_builtin;refine Kd.R_append_rows (Kd.int .i64) (w0:=w) w.heap.size rfl (.tmp 3) (.tmp 5) 24 3 (.int .i64 0) 8 rfl Try.underlying24 info3 rfl (by decide) (by omega) v521 y520 l0_0 _ _ _ (fun _=>True) (fun _=>False) rfl rfl ?aO ?aR (fun _ _ h=>h) (fun _ h=>h.elim) ?aF ?aB ?aS ?aL ?_;(case aR=>exact zC (Kd.C_below HR0_0.1 HB.1));(case aB=>exact zB3);(case aF=>exact (fun _ _=>trivial));(case aO=>exact (zR HO522.1));(case aS=>exact (below_size zB3));(case aL=>have:=LMc2.out;omega);intro v524 w9 ho hb hg hat;rw [←Ny523.1] at ho;replace BK518:=zM (zg BK518.1 hg (Kd.R_ne HO522.1 BK518.1 (by decide)));replace BK519:=zM (zg BK519.1 hg (Kd.R_ne HO522.1 BK519.1 (by decide)));replace HB:=zM hb;have HO525:=zM ho;clear HO522;clear ho hb hg hat;obtain ⟨Ao10,co10,eo10⟩:=Kd.R_slice HO525.1;subst eo10;have hcz11:=zc_3 (w:=w9) BK518.1;have hcz12:=zc_3 (w:=w9) BK519.1))
 refine bodyPost_ret (results_cell_row rfl _ _ gb519 72 #[.slice Ao10 y523.length co10,.int .i64 a0_1,.int .i64 a0_2] (0,0) _ rfl zPq Try.underlying72 rfl (by kernel_rfl)) rfl ?_
 exact ⟨_,zE,by refine zrR ?_;exact Kd.R_mono (zfR (zfR (zfR (zgR (Kd.R_types (Kd.R_types HO525.1 BK518.1 (by decide)) BK519.1 (by decide)))))) (fun _ hk=>trivial),zB3⟩

/-! ### spec_l9Word: function 116 -/
def spec_l9Word.f (a0:Int):Option (Int):=some (Go.bits .and .i64 a0 65535)
theorem spec_l9Word.calls (a0:Int) (r:Int) (w:World) (h:spec_l9Word.f a0=some r):
  Calls Try.prog 116 #[.int .i64 a0] w fun e w'=>e= .returned (.int .i64 r)∧Drawn0 w w':=by
 unfold spec_l9Word.f at h
 have H:=h
 clear h
 obtain rfl:=Option.some.inj H
 go_enter Try.func116,Try.ntmps116
 go_wp2
 go_ret
 exact ⟨zJJ,zDD⟩

end Go.Proofs.Ytaakcbgpmabaaaa.PFnSeen
