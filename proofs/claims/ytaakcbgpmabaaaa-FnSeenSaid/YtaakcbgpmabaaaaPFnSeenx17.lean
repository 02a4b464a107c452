-- made by wip/tools/myprint.py out of the seat's translation
import Derived.Test.YtaakcbgpmabaaaaPFnSeenx0
import Derived.Test.YtaakcbgpmabaaaaPFnSeenx2
import Derived.Test.YtaakcbgpmabaaaaPFnSeenx5
import Derived.Test.YtaakcbgpmabaaaaPFnSeenx6
import Derived.Test.YtaakcbgpmabaaaaPFnSeenx16
namespace Go.Proofs.Ytaakcbgpmabaaaa.PFnSeen
open Go.RowKit Go.Proofs.YtaakcbgpmabaaaaW.PrintWords Go.Proofs.YtaakcbgpmabaaaaW.PrintLast Go.Proofs.YtaakcbgpmabaaaaW.PrintMore
attribute [local go_sem] max2_int min2_int max_two min_two max_three min_three max_four min_four -- for this text's walks alone
set_option linter.unusedVariables false
set_option linter.unusedSimpArgs false
set_option maxHeartbeats 8000000
set_option maxRecDepth 100000
theorem cell_at17 {W w:World} {n:Nat} {p:Addr} {v:Value} (hq:W.drewN n=w) (h:W.cell? p=some v):w.cell? p=some v:=by rw [←hq];exact h
theorem frozen_at17 {W w:World} {n:Nat} {p:Addr} {b:Bool} (hq:W.drewN n=w) (h:W.frozen? p=b):w.frozen? p=b:=by rw [←hq];exact h

/-! ### spec_l20Draw: function 45 -/
def spec_l20Draw.l0:Nat→List (S74)→Int→List Int→Int→Int→Option (Int×(List (S74))×Int×Int)
 |0,_,_,_,_,_=>none
 |k+1,x7,x8,x1000,x1001,x1002=>(spec_l1Below.f x1000 x1001 x1002 9).bind fun bt791=>(if x8<bt791.1 then ((spec_l19DrawEvent.f x1000 bt791.2.1 bt791.2.2).bind fun bt794=>(if x7.length<3518437208883 then (spec_l20Draw.l0 k (x7++[(⟨bt794.1,bt794.2.1,bt794.2.2.1,bt794.2.2.2.1,bt794.2.2.2.2.1⟩:S74)]) (wrap64 (x8+1)) x1000 bt794.2.2.2.2.2.1 bt794.2.2.2.2.2.2) else (none))) else ((spec_l1PickInt.f x1000 bt791.2.1 bt791.2.2 (([3,3,3,2,8,9,0,(-1)]:List Int))).bind fun bt807=>(some (bt807.1,x7,bt807.2.1,bt807.2.2))))
def spec_l20Draw.f (k:Nat) (s0_0:List Int) (s0_1:Int) (s0_2:Int):Option (Int×(List (S74))×Int×Int):=(spec_l1Once.f s0_0 s0_1 s0_2 2).bind fun bt771=>(if bt771.1=true then ((spec_l18DrawRun.f k s0_0 bt771.2.1 bt771.2.2 20).bind fun bt774=>((spec_Trace.f k bt774.1 bt774.2.1 bt774.2.2.1).bind fun t785=>(some ((bt774.2.1.length:Int),t785,bt774.2.2.2.1,bt774.2.2.2.2)))) else (spec_l20Draw.l0 k (([]:List (S74))) 0 s0_0 bt771.2.1 bt771.2.2))
theorem spec_l20Draw.mono_l: ∀k,(∀y0 y1 y2 y3 y4,LeO (spec_l20Draw.l0 k y0 y1 y2 y3 y4) (spec_l20Draw.l0 (k+1) y0 y1 y2 y3 y4))
 |0=>fun _ _ _ _ _ r h=>by simp [spec_l20Draw.l0] at h
 |k+1=>by
  have ih0:=spec_l20Draw.mono_l k
  ·intros
   unfold spec_l20Draw.l0
   have mo0:=@spec_Trace.mono
   have mo1:=@spec_l18DrawRun.mono
   exact zL
theorem spec_l20Draw.mono: ∀a0 a1 a2 k,LeO (spec_l20Draw.f k a0 a1 a2) (spec_l20Draw.f (k+1) a0 a1 a2):=by
 intro a0 a1 a2 k
 have ih0:=spec_l20Draw.mono_l k
 unfold spec_l20Draw.f
 have mo0:=@spec_Trace.mono
 have mo1:=@spec_l18DrawRun.mono
 exact zL
theorem spec_l20Draw.calls (k:Nat) (g:Nat) (s0_0:List Int) (s0_1:Int) (s0_2:Int) (r1:Int) (r2:List (S74)) (r3:Int) (r4:Int) (w0 w:World) (hI:IsS104 w0 w g s0_0 s0_1 s0_2) (hB:Below w0.heap.size w0 w) (h:spec_l20Draw.f k s0_0 s0_1 s0_2=some (r1,r2,r3,r4)):
  Calls Try.prog 45 #[.pointer (some ⟨g,0,none⟩)] w fun e w'=>∃v1_:Value,e= .returned (.tuple #[.int .i64 r1,v1_])∧Kd.R k74 74 w' w.heap.size (fun _=>True) v1_ r2∧IsS104 w0 w' g s0_0 r3 r4∧Below w0.heap.size w0 w'∧KeepBut w w' g none:=by
 have HI0:=zM hI
 have HK:=zM (KeepBut.refl w g none)
 have HL:=zM hB.size
 clear hI
 have HW0:=zM hB.size
 have HB:=zM hB
 clear hB
 unfold spec_l20Draw.f at h
 have H:=h
 clear h
 replace H:=zO H
 obtain ⟨⟨t771,t772,t773⟩,A2,H⟩:=H
 try dsimp only at H
 by_cases c3:t771=true
 ·subst c3
  rw [if_pos rfl] at H
  replace H:=zO H
  obtain ⟨⟨t774,t777,t780,t783,t784⟩,A4,H⟩:=H
  try dsimp only at H
  replace H:=zO H
  obtain ⟨t785,A5,H⟩:=H
  simp only [Option.some.injEq,Prod.mk.injEq] at H
  obtain ⟨rfl,rfl,rfl,rfl⟩:=H
  go_enter Try.func45,Try.ntmps45
  go_wp2_with (first|((with_reducible refine zG Try.func41 10 #[.pointer (some ⟨g,0,none⟩),.int .i64 2] ?_);(with_reducible refine (spec_l1Once.calls g s0_0 s0_1 s0_2 2 true t772 t773 w0 _ ?side1 ?side2 A2.1).mono ?_);(case side1=>exact zB0);(case side2=>exact zB1);rintro e w6 ⟨rfl,hi,hb,hk⟩;refine ⟨_,rfl,?_⟩;replace HK:=zM (KeepBut.trans zB2 hk (.inl rfl));replace HB:=zM hb;replace HI0:=zM hi;clear hb hk hi)|((with_reducible refine zG Try.func31 13 #[.pointer (some ⟨g,0,none⟩),.int .i64 20] ?_);(with_reducible refine (spec_l18DrawRun.calls k g s0_0 t772 t773 20 t774 t777 t780 t783 t784 w0 _ ?side1 ?side2 A4.1).mono ?_);(case side1=>exact zB0);(case side2=>exact zB1);rintro e w7 ⟨v775,v778,v781,rfl,ho0,ho1,ho2,hi,hb,hk⟩;refine ⟨_,rfl,?_⟩;have HO776:=zM (Kd.R_lower ho0 (keep_size (w:=w) (g:=g) (row:=none) zB2));have HO779:=zM (Kd.S_lower ho1 (keep_size (w:=w) (g:=g) (row:=none) zB2));have HO782:=zM (Kd.R_lower ho2 (keep_size (w:=w) (g:=g) (row:=none) zB2));replace HK:=zM (KeepBut.trans zB2 hk (.inl rfl));replace HB:=zM hb;replace HI0:=zM hi;clear hb hk hi ho0 ho1 ho2;obtain ⟨Ao8,co8,eo8⟩:=Kd.S_slice HO779.1;subst eo8;obtain ⟨Ao9,co9,eo9⟩:=Kd.R_slice HO776.1;subst eo9;obtain ⟨Ao10,co10,eo10⟩:=Kd.R_slice HO782.1;subst eo10)|((with_reducible refine zG Try.func42 22 #[.slice Ao9 t774.length co9,.slice Ao8 t777.length co8,.slice Ao10 t780.length co10] ?_);(with_reducible refine (spec_Trace.calls k _ _ t774 (fun k_=>((some k_≠(.slice Ao9 t774.length co9:Value).ownBlock∧some k_≠(.slice Ao10 t780.length co10:Value).ownBlock)∧k_≠g)) _ _ t777 _ _ t780 t785 _ ?side1 ?side2 ?side3 ?side4 ?side5 A5.1).mono ?_);(case side1=>exact zC (Kd.R_reads' HO776.1).2.2);(case side2=>exact (Kd.R_reads' HO776.1).2.1);(case side3=>exact Kd.S_V (IsS104.apartS HI0.1 (HO779.1) (by decide)));(case side4=>exact zC (Kd.R_reads' HO782.1).2.2);(case side5=>exact (Kd.R_reads' HO782.1).2.1);rintro e w11 ⟨v786,rfl,ho0,hb⟩;refine ⟨_,rfl,?_⟩;replace HO776:=zM (Kd.R_below (zR HO776.1) hb);replace HO779:=zM (Kd.S_below (zS HO779.1) hb);replace HO782:=zM (Kd.R_below (zR HO782.1) hb);have HO787:=zM (Kd.R_lower (Kd.R_mono (ok':=fun k_=>True) ho0 (fun _ hk_=>trivial)) (keep_size (w:=w) (g:=g) (row:=none) zB2));replace HK:=zM (KeepBut.trans zB2 (KeepBut.of_below hb g none) (.inl rfl));replace HB:=zM (below_step zB1 hb);replace HI0:=zM (IsS104.below zB0 hb);clear hb ho0))
  go_ret2
  exact ⟨_,zE,zR HO787.1,zB0,zB1,zB2⟩
 replace c3:=Bool.eq_false_iff.mpr c3
 subst c3
 rw [if_neg zF] at H
 generalize hy788:((([]:List (S74))):List (S74))=y788 at H
 have Ny788:=zM hy788.symm
 clear hy788
 have H':=zM H
 clear H
 go_enter Try.func45,Try.ntmps45
 go_wp2_with (first|((with_reducible refine zG Try.func41 10 #[.pointer (some ⟨g,0,none⟩),.int .i64 2] ?_);(with_reducible refine (spec_l1Once.calls g s0_0 s0_1 s0_2 2 false t772 t773 w0 _ ?side1 ?side2 A2.1).mono ?_);(case side1=>exact zB0);(case side2=>exact zB1);rintro e w12 ⟨rfl,hi,hb,hk⟩;refine ⟨_,rfl,?_⟩;replace HK:=zM (KeepBut.trans zB2 hk (.inl rfl));replace HB:=zM hb;replace HI0:=zM hi;clear hb hk hi)|((with_reducible refine gate_dst (N:=23) rfl ?_);refine Kd.R_lit k74 _ 74 ?hg (N:=23) ?hd (xs:=([]:List (S74))) (inner:=[]) (ok:=fun _=>True) (okp:=fun _=>True) ?hr ?hp (fun _ hk=>hk) trivial (Below.refl _ _) (Nat.le_refl _) (by simp) ?_;(case hd=>rfl);(case hg=>rfl);(case hr=>exact zHH);(case hp=>exact (Reps.none _ _));intro v789 w13 ho14 hb hg_ hnew_;clear hg_ hnew_;(first|rw [←Ny788.1] at ho14|(simp only [Int.reduceToNat] at ho14;rw [←Ny788.1] at ho14));have HO790:=zM (Kd.R_lower ho14 (keep_size (w:=w) (g:=g) (row:=none) zB2));replace HK:=zM (KeepBut.trans zB2 (KeepBut.of_below hb g none) (.inl rfl));replace HB:=zM (below_step zB1 hb);replace HI0:=zM (IsS104.below zB0 hb);clear hb ho14))
 go_loopg [7,8] k (fun kq v7 v8 w'=>∃(x7_1:List (S74)) (x8_1:Int) (x1001_1:Int) (x1002_1:Int),v8= .int .i64 x8_1∧Aside0 (spec_l20Draw.l0 kq x7_1 x8_1 s0_0 x1001_1 x1002_1=some (r1,r2,r3,r4))∧Aside0 (kq≤k)∧Aside0 (Kd.R k74 74 w' w.heap.size (fun _=>True) v7 x7_1)∧Aside0 (IsS104 w0 w' g s0_0 x1001_1 x1002_1)∧Aside0 (KeepBut w w' g none)∧Aside0 (Below w0.heap.size w0 w'))
 case atStart=>exact ⟨(y788),(0),(t772),(t773),zJJ,H',⟨Nat.le_refl _⟩,⟨zR HO790.1⟩,⟨zB0⟩,⟨zB2⟩,⟨zB1⟩⟩
 case round=>
  clear H'
  obtain ⟨x7_1,x8_1,x1001_1,x1002_1,rfl,HA,HK1,HO_7,HI0,HK,HB⟩:=hrel
  cases gk with
  |zero=>exact absurd HA.1 (by simp [spec_l20Draw.l0])
  |succ k1=>
   have H:=HA.1
   clear HA
   simp only [spec_l20Draw.l0] at H
   replace H:=zO H
   obtain ⟨⟨t791,t792,t793⟩,A15,H⟩:=H
   try dsimp only at H
   by_cases c16:x8_1<t791
   ·rw [if_pos c16] at H
    have c16b0:=decide_eq_true c16
    clear c16
    replace H:=zO H
    obtain ⟨⟨t794,t795,t796,t797,t798,t799,t800⟩,A17,H⟩:=H
    try dsimp only at H
    replace H:=zIn H
    obtain ⟨LMc18,H⟩:=H
    generalize hy801:((x7_1++[(⟨t794,t795,t796,t797,t798⟩:S74)]):List (S74))=y801 at H
    have Ny801:=zM hy801.symm
    clear hy801
    have H':=zM H
    clear H
    go_wp2_with (first|((with_reducible refine zG Try.func43 26 #[.pointer (some ⟨g,0,none⟩),.int .i64 9] ?_);(with_reducible refine (spec_l1Below.calls g s0_0 x1001_1 x1002_1 9 t791 t792 t793 w0 _ ?side1 ?side2 A15.1).mono ?_);(case side1=>exact zB0);(case side2=>exact zB1);rintro e w19 ⟨rfl,hi,hb,hk⟩;refine ⟨_,rfl,?_⟩;replace HO_7:=zM (Kd.R_mono (Kd.R_keep (IsS104.apart (show IsS104 w0 _ g s0_0 x1001_1 x1002_1 from zB0) (zR HO_7.1) (by decide)) hk (fun _ h=>h.2)) (fun _ h=>h.1));replace HK:=zM (KeepBut.trans zB2 hk (.inl rfl));replace HB:=zM hb;replace HI0:=zM hi;clear hb hk hi)|((with_reducible refine zG Try.func85 32 #[.pointer (some ⟨g,0,none⟩)] ?_);(with_reducible refine (spec_l19DrawEvent.calls g s0_0 t792 t793 t794 t795 t796 t797 t798 t799 t800 w0 _ ?side1 ?side2 A17.1).mono ?_);(case side1=>exact zB0);(case side2=>exact zB1);rintro e w20 ⟨rfl,hi,hb,hk⟩;refine ⟨_,rfl,?_⟩;replace HO_7:=zM (Kd.R_mono (Kd.R_keep (IsS104.apart (show IsS104 w0 _ g s0_0 t792 t793 from zB0) (zR HO_7.1) (by decide)) hk (fun _ h=>h.2)) (fun _ h=>h.1));replace HK:=zM (KeepBut.trans zB2 hk (.inl rfl));replace HB:=zM hb;replace HI0:=zM hi;clear hb hk hi)|((with_reducible refine gate_builtin (b:= .append) (xs:=#[.tmp 30,.tmp 33]) rfl ?_);at_builtin;refine Kd.R_append k74 w.heap.size rfl (.tmp 30) (.tmp 33) 28 74 (.agg #[(.int .i64 0),(.int .i64 0),(.int .i64 0),(.int .i64 0),(.int .i64 0)]) 40 rfl Try.underlying28 info74 rfl (by decide) (by omega) u7 x7_1 (⟨t794,t795,t796,t797,t798⟩:S74) [.int .i64 t794,.int .i64 t795,.int .i64 t796,.int .i64 t797,.int .i64 t798] (fun _=>True) (fun _=>False) rfl rfl ?aP (fun _ hk=>hk.elim) ?aF ?aO (Below.refl _ _) ?aS ?aL ?_;(case aP=>exact k74_mkM _ _ _ (⟨t794,t795,t796,t797,t798⟩:S74));(case aF=>exact (fun _ _=>trivial));(case aO=>exact (zR HO_7.1));(case aS=>exact (keep_size (w:=w) (g:=g) (row:=none) zB2));(case aL=>have:=LMc18.out;omega);intro v802 w21 ho hb hg hat;rw [←Ny801.1] at ho;replace HB:=zM (below_weaken zB1 HL.1 hb);replace HI0:=zM (IsS104.grown (show IsS104 w0 _ g s0_0 t799 t800 from zB0) hg (IsS104.own_ne HI0.1 HO_7.1 (by decide)));replace HK:=zM (KeepBut.trans zB2 (KeepBut.of_grown hg g) (Kd.R_base2 HO_7.1));have HO803:=zM ho;clear HO_7;clear ho hb hg hat))
    go_roundg k1
    case measure=>have:=HK1.1;omega
    case rel=>exact ⟨(y801),(wrap64 (x8_1+1)),(t799),(t800),zJJ,H',⟨by have:=HK1.1;omega⟩,⟨zR HO803.1⟩,⟨zB0⟩,⟨zB2⟩,⟨zB1⟩⟩
   rw [if_neg c16] at H
   have c16b0:=decide_eq_false c16
   clear c16
   generalize hy804:((([3,3,3,2,8,9,0,(-1)]:List Int)):List Int)=y804 at H
   have Ny804:=zM hy804.symm
   clear hy804
   replace H:=zO H
   obtain ⟨⟨t807,t808,t809⟩,A22,H⟩:=H
   try dsimp only at H
   simp only [Option.some.injEq,Prod.mk.injEq] at H
   obtain ⟨rfl,rfl,rfl,rfl⟩:=H
   go_wp2_with (first|((with_reducible refine zG Try.func43 26 #[.pointer (some ⟨g,0,none⟩),.int .i64 9] ?_);(with_reducible refine (spec_l1Below.calls g s0_0 x1001_1 x1002_1 9 t791 t792 t793 w0 _ ?side1 ?side2 A15.1).mono ?_);(case side1=>exact zB0);(case side2=>exact zB1);rintro e w23 ⟨rfl,hi,hb,hk⟩;refine ⟨_,rfl,?_⟩;replace HO_7:=zM (Kd.R_mono (Kd.R_keep (IsS104.apart (show IsS104 w0 _ g s0_0 x1001_1 x1002_1 from zB0) (zR HO_7.1) (by decide)) hk (fun _ h=>h.2)) (fun _ h=>h.1));replace HK:=zM (KeepBut.trans zB2 hk (.inl rfl));replace HB:=zM hb;replace HI0:=zM hi;clear hb hk hi)|((with_reducible refine gate_dst (N:=36) rfl ?_);refine Kd.R_lit (Kd.int .i64) _ 3 ?hg (N:=36) ?hd (xs:=([3,3,3,2,8,9,0,(-1)]:List Int)) (inner:=[.int .i64 3,.int .i64 3,.int .i64 3,.int .i64 2,.int .i64 8,.int .i64 9,.int .i64 0,.int .i64 (-1)]) (ok:=fun _=>True) (okp:=fun _=>True) ?hr ?hp (fun _ hk=>hk) trivial (Below.refl _ _) (Nat.le_refl _) (by simp) ?_;(case hd=>rfl);(case hg=>rfl);(case hr=>exact zHH);(case hp=>exact (Reps.one (show Kd.M (Kd.int .i64) _ _ _ 3 [.int .i64 3] from rfl) (Reps.one (show Kd.M (Kd.int .i64) _ _ _ 3 [.int .i64 3] from rfl) (Reps.one (show Kd.M (Kd.int .i64) _ _ _ 3 [.int .i64 3] from rfl) (Reps.one (show Kd.M (Kd.int .i64) _ _ _ 2 [.int .i64 2] from rfl) (Reps.one (show Kd.M (Kd.int .i64) _ _ _ 8 [.int .i64 8] from rfl) (Reps.one (show Kd.M (Kd.int .i64) _ _ _ 9 [.int .i64 9] from rfl) (Reps.one (show Kd.M (Kd.int .i64) _ _ _ 0 [.int .i64 0] from rfl) (Reps.one (show Kd.M (Kd.int .i64) _ _ _ (-1) [.int .i64 (-1)] from rfl) (Reps.none _ _))))))))));intro v805 w24 ho25 hb hg_ hnew_;clear hg_ hnew_;(first|rw [←Ny804.1] at ho25|(simp only [Int.reduceToNat] at ho25;rw [←Ny804.1] at ho25));replace HO_7:=zM (Kd.R_below (zR HO_7.1) hb);have HO806:=zM (Kd.R_lower ho25 (keep_size (w:=w) (g:=g) (row:=none) zB2));replace HK:=zM (KeepBut.trans zB2 (KeepBut.of_below hb g none) (.inl rfl));replace HB:=zM (below_step zB1 hb);replace HI0:=zM (IsS104.below zB0 hb);clear hb ho25;obtain ⟨Ao26,co26,eo26⟩:=Kd.R_slice HO806.1;subst eo26)|((with_reducible refine zG Try.func84 37 #[.pointer (some ⟨g,0,none⟩),.slice Ao26 y804.length co26] ?_);(with_reducible refine (spec_l1PickInt.calls g s0_0 t792 t793 _ _ y804 t807 t808 t809 w0 _ ?side1 ?side2 ?side3 ?side4 ?side5 A22.1).mono ?_);(case side1=>exact zB0);(case side2=>exact zB1);(case side3=>exact zC (Kd.R_reads' HO806.1).2.2);(case side4=>exact (Kd.R_reads' HO806.1).2.1);(case side5=>exact far_slice (IsS104.own_ne HI0.1 HO806.1 (by decide)));rintro e w27 ⟨rfl,hi,hb,hk⟩;refine ⟨_,rfl,?_⟩;replace HO_7:=zM (Kd.R_mono (Kd.R_keep (IsS104.apart (show IsS104 w0 _ g s0_0 t792 t793 from zB0) (zR HO_7.1) (by decide)) hk (fun _ h=>h.2)) (fun _ h=>h.1));replace HO806:=zM (Kd.R_mono (Kd.R_keep (IsS104.apart (show IsS104 w0 _ g s0_0 t792 t793 from zB0) (zR HO806.1) (by decide)) hk (fun _ h=>h.2)) (fun _ h=>h.1));replace HK:=zM (KeepBut.trans zB2 hk (.inl rfl));replace HB:=zM hb;replace HI0:=zM hi;clear hb hk hi))
   go_ret2
   exact ⟨_,zE,zR HO_7.1,zB0,zB1,zB2⟩

/-! ### spec_DrawByHart: function 10 -/
def spec_DrawByHart.f (k:Nat) (l0:List Int):Option (Int×(List (S74))):=(spec_l1New.f k l0).bind fun bt810=>((spec_l20Draw.f k bt810.1 bt810.2.1 bt810.2.2).bind fun bt814=>(some (bt814.1,bt814.2.1)))
theorem spec_DrawByHart.mono: ∀a0 k,LeO (spec_DrawByHart.f k a0) (spec_DrawByHart.f (k+1) a0):=by
 intro a0 k
 unfold spec_DrawByHart.f
 have mo0:=@spec_l1New.mono
 have mo1:=@spec_l20Draw.mono
 exact zL
theorem spec_DrawByHart.calls (k:Nat) (A0:Option Addr) (c0:Nat) (l0:List Int) (r1:Int) (r2:List (S74)) (w:World) (hr0:Kd.C (Kd.int .u8) w A0 l0.length l0) (hc0:l0.length≤c0) (h:spec_DrawByHart.f k l0=some (r1,r2)):
  Calls Try.prog 10 #[.slice A0 l0.length c0] w fun e w'=>∃v1_:Value,e= .returned (.tuple #[.int .i64 r1,v1_])∧Kd.R k74 74 w' w.heap.size (fun _=>True) v1_ r2∧Below w.heap.size w w':=by
 have HR0:=zM hr0
 have HC0:=zM hc0
 clear hr0 hc0
 have HB:=zM (Below.refl w.heap.size w)
 unfold spec_DrawByHart.f at h
 have H:=h
 clear h
 replace H:=zO H
 obtain ⟨⟨t810,t811,t812⟩,A2,H⟩:=H
 try dsimp only at H
 replace H:=zO H
 obtain ⟨⟨t814,t815,t818,t819⟩,A3,H⟩:=H
 try dsimp only at H
 simp only [Option.some.injEq,Prod.mk.injEq] at H
 obtain ⟨rfl,rfl⟩:=H
 go_enter Try.func10,Try.ntmps10
 go_wp2_with (first|((with_reducible refine zG Try.func32 8 #[.slice A0 l0.length c0] ?_);(with_reducible refine (spec_l1New.calls k _ _ l0 t810 t811 t812 w _ ?side1 ?side2 ?side3 A2.1).mono ?_);(case side1=>exact zB3);(case side2=>exact HR0.1);(case side3=>exact HC0.1);rintro e w4 ⟨g813,rfl,hi,hb,hb2⟩;refine ⟨_,rfl,?_⟩;replace HB:=zM hb;have HI813:=zM hi;clear hb hb2 hi)|((with_reducible refine zG Try.func45 9 #[.pointer (some ⟨g813,0,none⟩)] ?_);(with_reducible refine (spec_l20Draw.calls k g813 t810 t811 t812 t814 t815 t818 t819 w _ ?side1 ?side2 A3.1).mono ?_);(case side1=>exact zB104);(case side2=>exact zB105);rintro e w5 ⟨v816,rfl,ho0,hi,hb,hk⟩;refine ⟨_,rfl,?_⟩;have HO817:=zM (Kd.R_lower ho0 (below_size zB105));replace HB:=zM hb;replace HI813:=zM hi;clear hb hk hi ho0))
 go_ret2
 exact ⟨_,zE,zR HO817.1,zB105⟩

/-! ### spec_DrawDidText: function 11 -/
def spec_DrawDidText.f (k:Nat) (l0:List Int):Option (Int×Int×Int):=(spec_l1New.f k l0).bind fun bt821=>((spec_l21DrawDid.f k bt821.1 bt821.2.1 bt821.2.2).bind fun bt825=>(some (bt825.1,bt825.2.1,bt825.2.2.1)))
theorem spec_DrawDidText.mono: ∀a0 k,LeO (spec_DrawDidText.f k a0) (spec_DrawDidText.f (k+1) a0):=by
 intro a0 k
 unfold spec_DrawDidText.f
 have mo0:=@spec_l1New.mono
 have mo1:=@spec_l21DrawDid.mono
 exact zL
theorem spec_DrawDidText.calls (k:Nat) (A0:Option Addr) (c0:Nat) (l0:List Int) (r1:Int) (r2:Int) (r3:Int) (w:World) (hr0:Kd.C (Kd.int .u8) w A0 l0.length l0) (hc0:l0.length≤c0) (h:spec_DrawDidText.f k l0=some (r1,r2,r3)):
  Calls Try.prog 11 #[.slice A0 l0.length c0] w fun e w'=>e= .returned (.agg #[.int .i64 r1,.int .i64 r2,.int .i64 r3])∧Below w.heap.size w w':=by
 have hu37:=Try.underlying37
 have HR0:=zM hr0
 have HC0:=zM hc0
 clear hr0 hc0
 have HB:=zM (Below.refl w.heap.size w)
 unfold spec_DrawDidText.f at h
 have H:=h
 clear h
 replace H:=zO H
 obtain ⟨⟨t821,t822,t823⟩,A2,H⟩:=H
 try dsimp only at H
 replace H:=zO H
 obtain ⟨⟨t825,t826,t827,t828,t829⟩,A3,H⟩:=H
 try dsimp only at H
 simp only [Option.some.injEq,Prod.mk.injEq] at H
 obtain ⟨rfl,rfl,rfl⟩:=H
 go_enter Try.func11,Try.ntmps11
 go_wp2_with (first|((with_reducible refine zBx 2 37 #[.int .i64 0,.int .i64 0,.int .i64 0] ?_);intro gb820 hg w4 hbox hb;have BK820:=zM hbox;have GW820:=zM (zW hg (below_size zB3));have GE820:=zM (zW hg (below_size zB3));replace HB:=zM (below_step zB3 hb);clear hb hbox hg)|((with_reducible refine zG Try.func32 4 #[.slice A0 l0.length c0] ?_);(with_reducible refine (spec_l1New.calls k _ _ l0 t821 t822 t823 w _ ?side1 ?side2 ?side3 A2.1).mono ?_);(case side1=>exact zB3);(case side2=>exact HR0.1);(case side3=>exact HC0.1);rintro e w5 ⟨g824,rfl,hi,hb,hb2⟩;refine ⟨_,rfl,?_⟩;replace HB:=zM hb;have HI824:=zM hi;have NB824_820:=zM (IsS104.ne_blk hi (zb BK820.1 hb2) (by decide));have NB820_824:=zM (Ne.symm (IsS104.ne_blk hi (zb BK820.1 hb2) (by decide)));replace BK820:=zM (zb BK820.1 hb2);clear hb hb2 hi)|((with_reducible refine zG Try.func44 5 #[.pointer (some ⟨g824,0,none⟩)] ?_);(with_reducible refine (spec_l21DrawDid.calls k g824 t821 t822 t823 t825 t826 t827 t828 t829 w _ ?side1 ?side2 A3.1).mono ?_);(case side1=>exact zB107);(case side2=>exact zB108);rintro e w6 ⟨rfl,hi,hb,hk⟩;refine ⟨_,rfl,?_⟩;replace BK820:=zM (zh hk BK820.1 NB820_824.1);replace HB:=zM hb;replace HI824:=zM hi;clear hb hk hi;have hnb7:=NB820_824.1;have hnc7:=NB824_820.1;have hcz8:=zc_3 (w:=w6) BK820.1))
 refine bodyPost_ret (results_cell_row rfl _ _ gb820 37 #[.int .i64 t825,.int .i64 t826,.int .i64 t827] (0,0) _ rfl (by exact zp3 (zK BK820.1)) Try.underlying37 rfl (by kernel_rfl)) rfl ?_
 exact ⟨zE,zB108⟩

-- NOT PRINTED: function 87 (impl_Did)

/-! ### impl_some: function 47 -/
mutual
def impl_some.l0:Nat→List Int→List (List (S37))→Bool→List (List (S37))→Int→Int→Option (Bool)
 |0,_,_,_,_,_,_=>none
 |k+1,x0,x1,x5,x11,x12,x13=>if x13<x12 then (if 0≤x13 then (if x13<(x11.length:Int) then (if ((rd_L7 x11 x13).length:Int)=0 then (impl_some.l0 k x0 x1 x5 x11 x12 (wrap64 (x13+1))) else (if 0<((rd_L7 x11 x13).length:Int) then ((impl_isCell.f ((rd_T37 (rd_L7 x11 x13) 0).f0)).bind fun t833=>(if t833=true then (if ((rd_T37 (rd_L7 x11 x13) 0).f1)≥0 then (if 0≤((rd_T37 (rd_L7 x11 x13) 0).f0) then (if ((rd_T37 (rd_L7 x11 x13) 0).f0)<(x0.length:Int) then (impl_some.j1 k x0 x1 true (rd_L7 x11 x13) x11 x12 x13 (((rd_T37 (rd_L7 x11 x13) 0).f1) != (rd x0 ((rd_T37 (rd_L7 x11 x13) 0).f0))) ((rd_T37 (rd_L7 x11 x13) 0).f0) ((rd_T37 (rd_L7 x11 x13) 0).f1) ((rd_T37 (rd_L7 x11 x13) 0).f2)) else (none)) else (none)) else (impl_some.j1 k x0 x1 true (rd_L7 x11 x13) x11 x12 x13 false ((rd_T37 (rd_L7 x11 x13) 0).f0) ((rd_T37 (rd_L7 x11 x13) 0).f1) ((rd_T37 (rd_L7 x11 x13) 0).f2))) else (impl_some.j1 k x0 x1 true (rd_L7 x11 x13) x11 x12 x13 true ((rd_T37 (rd_L7 x11 x13) 0).f0) ((rd_T37 (rd_L7 x11 x13) 0).f1) ((rd_T37 (rd_L7 x11 x13) 0).f2)))) else (none))) else (none)) else (none)) else (some (!x5))
def impl_some.j1:Nat→List Int→List (List (S37))→Bool→List (S37)→List (List (S37))→Int→Int→Bool→Int→Int→Int→Option (Bool)
 |0,_,_,_,_,_,_,_,_,_,_,_=>none
 |k+1,x0,x1,x5,x7,x11,x12,x13,x42,x833000,x833001,x833002=>if x42=true then (impl_some.l0 k x0 x1 x5 x11 x12 (wrap64 (x13+1))) else ((slices_Clone_int_int.f x0).bind fun t835=>(if x833002≥0 then (if 0≤x833000 then (if x833000<(t835.length:Int) then (if 1≤(x7.length:Int) then ((impl_some.f k (t835.set (x833000:Int).toNat x833002) (x1.set (x13:Int).toNat (x7.drop (1:Int).toNat))).bind fun t843=>(if t843=true then (some true) else (impl_some.l0 k x0 x1 x5 x11 x12 (wrap64 (x13+1))))) else (none)) else (none)) else (none)) else (if 1≤(x7.length:Int) then ((impl_some.f k t835 (x1.set (x13:Int).toNat (x7.drop (1:Int).toNat))).bind fun t848=>(if t848=true then (some true) else (impl_some.l0 k x0 x1 x5 x11 x12 (wrap64 (x13+1))))) else (none))))
def impl_some.f:Nat→List Int→List (List (S37))→Option (Bool)
 |0,_,_=>none
 |k+1,l0,l1=>if l1.length≤1000000 then impl_some.l0 k l0 l1 false l1 (l1.length:Int) 0 else none
end
theorem impl_some.mono_l: ∀k,(∀y0 y1,LeO (impl_some.f k y0 y1) (impl_some.f (k+1) y0 y1))∧(∀y0 y1 y2 y3 y4 y5,LeO (impl_some.l0 k y0 y1 y2 y3 y4 y5) (impl_some.l0 (k+1) y0 y1 y2 y3 y4 y5))∧(∀y0 y1 y2 y3 y4 y5 y6 y7 y8 y9 y10,LeO (impl_some.j1 k y0 y1 y2 y3 y4 y5 y6 y7 y8 y9 y10) (impl_some.j1 (k+1) y0 y1 y2 y3 y4 y5 y6 y7 y8 y9 y10))
 |0=>⟨fun _ _ r h=>by simp [impl_some.f] at h,fun _ _ _ _ _ _ r h=>by simp [impl_some.l0] at h,fun _ _ _ _ _ _ _ _ _ _ _ r h=>by simp [impl_some.j1] at h⟩
 |k+1=>by
  obtain ⟨ih0,ih1,ih2⟩:=impl_some.mono_l k
  refine ⟨?_,?_,?_⟩
  ·intros
   unfold impl_some.f
   exact zL
  ·intros
   unfold impl_some.l0
   exact zL
  ·intros
   unfold impl_some.j1
   exact zL
theorem impl_some.mono: ∀a0 a1 k,LeO (impl_some.f k a0 a1) (impl_some.f (k+1) a0 a1):=by
 intro a0 a1 k
 obtain ⟨ih0,ih1,ih2⟩:=impl_some.mono_l k
 exact ih0 a0 a1
/-- A row's value, read as such. -/
structure RawS where
 A:Option Addr
 n:Nat
 c:Nat
def rawK:Kd RawS:=Kd.scalar (fun r=> .slice r.A r.n r.c) (fun _=>rfl)
def RawOf {α:Type} (d:Kd α) (w:World) (rs:List RawS) (xs:List (List α)):Prop:=rs.length=xs.length∧∀(i:Nat) (r:RawS) (x:List α),rs[i]? =some r→xs[i]? =some x→r.n=x.length∧x.length≤r.c∧d.C w r.A x.length x
theorem raw_open {α:Type} {d:Kd α} {e:Nat} {w:World} {A:Option Addr} {n:Nat} : ∀{xs:List (List α)},(Kd.slice e d).C w A n xs→∃rs,rawK.C w A n rs∧RawOf d w rs xs:=by
 intro xs h
 have key: ∀m,m≤xs.length→∃rs:List RawS,rs.length=m∧(∀(i:Nat) (r:RawS) (x:List α),rs[i]? =some r→xs[i]? =some x→r.n=x.length∧x.length≤r.c∧d.C w r.A x.length x)∧∀ad,A=some ad→∀(i:Nat) (r:RawS),rs[i]? =some r→w.cell? (ad.add i)=some (.slice r.A r.n r.c):=by
  intro m
  induction m with
  |zero=>exact fun _=>⟨[],rfl,fun i r x hi=>by simp at hi,fun ad _ i r hi=>by simp at hi⟩
  |succ m ih=>
   intro hm
   obtain ⟨rs,hl,h1,h2⟩:=ih (by omega)
   have hn:=h.1
   obtain ⟨ad,cs,he,_,⟨A',c',rfl,hc,hC⟩,hcell⟩:=Kd.C_get h [] (m:Int) (by omega) (by omega)
   have hx:xs[m]? =some (xs.getD m []):=by simp [List.getD_eq_getElem?_getD,List.getElem?_eq_getElem (show m<xs.length by omega)]
   simp only [Int.toNat_natCast] at hcell hc hC
   refine ⟨rs++[⟨A',(xs.getD m []).length,c'⟩],by simp [hl],fun i r x hi hx'=>?_,fun ad' e' i r hi=>?_⟩
   ·rcases Nat.lt_or_ge i m with hlt|hge
    ·rw [List.getElem?_append_left (by omega)] at hi
     exact h1 i r x hi hx'
    ·rw [List.getElem?_append_right (by omega),hl] at hi
     have hi0:i-m=0:=by
      rcases Nat.eq_zero_or_pos (i-m) with h0|h0
      ·exact h0
      ·rw [List.getElem?_eq_none (by simp;omega)] at hi;cases hi
     obtain rfl:i=m:=by omega
     rw [Nat.sub_self] at hi
     obtain rfl:_=r:=by simpa using hi
     obtain rfl:=Option.some.inj (hx.symm.trans hx')
     exact ⟨rfl,hc,hC⟩
   ·rw [he] at e'
    obtain rfl:=Option.some.inj e'
    rcases Nat.lt_or_ge i m with hlt|hge
    ·rw [List.getElem?_append_left (by omega)] at hi
     exact h2 ad he i r hi
    ·rw [List.getElem?_append_right (by omega),hl] at hi
     have hi0:i-m=0:=by
      rcases Nat.eq_zero_or_pos (i-m) with h0|h0
      ·exact h0
      ·rw [List.getElem?_eq_none (by simp;omega)] at hi;cases hi
     obtain rfl:i=m:=by omega
     rw [Nat.sub_self] at hi
     obtain rfl:_=r:=by simpa using hi
     have h3:=hcell 0 _ rfl
     rwa [show (Kd.slice e d).sz=1 from rfl,Nat.mul_one,Nat.add_zero] at h3
 obtain ⟨rs,hl,h1,h2⟩:=key xs.length (Nat.le_refl _)
 refine ⟨rs,⟨by rw [hl];exact h.1,h.2.1,fun hp=>?_⟩,hl,h1⟩
 obtain ⟨ad,rfl,_⟩:=h.2.2 hp
 refine ⟨ad,rfl,fun j p hj=>⟨[_],rfl,rfl,fun i u hu=>?_⟩⟩
 cases i with
 |zero=>
  obtain rfl:_=u:=by simpa using hu
  have:=h2 ad rfl j p hj
  rwa [show rawK.sz=1 from rfl,Nat.mul_one,Nat.add_zero]
 |succ i=>simp at hu
theorem raw_set {α:Type} {d:Kd α} {w:World} {rs:List RawS} {xs:List (List α)} (h:RawOf d w rs xs) (i:Nat) {A:Option Addr} {c:Nat} {x:List α} (hc:x.length≤c) (hC:d.C w A x.length x):RawOf d w (rs.set i ⟨A,x.length,c⟩) (xs.set i x):=by
 refine ⟨by simp [h.1],fun j r y hj hy=>?_⟩
 by_cases e:i=j
 rotate_left
 ·rw [List.getElem?_set_ne e] at hj hy
  exact h.2 j r y hj hy
 subst e
 by_cases hl:i<rs.length
 rotate_left
 ·rw [List.getElem?_eq_none (by simp;omega)] at hj;cases hj
 rw [List.getElem?_set_self hl] at hj
 rw [List.getElem?_set_self (by rw [←h.1];exact hl)] at hy
 obtain rfl:=Option.some.inj hj
 obtain rfl:=Option.some.inj hy
 exact ⟨rfl,hc,hC⟩
theorem raw_join {α:Type} {d:Kd α} {e:Nat} {w w1:World} {rs:List RawS} {xs:List (List α)} {A:Option Addr} {n:Nat} (h:RawOf d w rs xs) (hb:Below w.heap.size w w1) (hC:rawK.C w1 A n rs):(Kd.slice e d).C w1 A n xs:=by
 refine ⟨by rw [←h.1];exact hC.1,hC.2.1,fun hp=>?_⟩
 obtain ⟨ad,rfl,hcell⟩:=hC.2.2 hp
 refine ⟨ad,rfl,fun j p hj=>?_⟩
 have hjl:j<rs.length:=by rw [h.1];exact (List.getElem?_eq_some_iff.1 hj).1
 obtain ⟨cs,h1,h2,h3⟩:=hcell j _ (List.getElem?_eq_getElem hjl)
 obtain ⟨h4,h5,h6⟩:=h.2 j _ p (List.getElem?_eq_getElem hjl) hj
 have h2':cs=[.slice rs[j].A rs[j].n rs[j].c]:=h2
 exact ⟨cs,h1,⟨rs[j].A,rs[j].c,by rw [h2',h4],h5,Kd.C_below h6 hb⟩,h3⟩
theorem raw_arg {α:Type} {d:Kd α} {e e2 b:Nat} {ok:Nat→Prop} {w w1:World} {rs:List RawS} {xs:List (List α)} {A0 A:Option Addr} {c0 c:Nat} {y x:List α} (h:RawOf d w rs xs) (hb:Below w.heap.size w w1) (i:Nat) (hy:y=x) (hc:y.length≤c) (hC:d.C w A y.length y) (hR:rawK.R e2 w1 b ok (.slice A0 rs.length c0) (rs.set i ⟨A,y.length,c⟩)):(Kd.slice e d).C w1 A0 (xs.set i x).length (xs.set i x):=by
 subst hy
 have h1:=(Kd.R_reads' hR).2.2
 rw [List.length_set] at h1
 rw [List.length_set,←h.1]
 exact raw_join (raw_set h i hc hC) hb h1
theorem raw_cap {α:Type} {d:Kd α} {e2 b:Nat} {ok:Nat→Prop} {w w1:World} {rs:List RawS} {xs:List (List α)} {A0:Option Addr} {c0:Nat} {r:RawS} {x:List α} (h:RawOf d w rs xs) (i:Nat) (hR:rawK.R e2 w1 b ok (.slice A0 rs.length c0) (rs.set i r)):(xs.set i x).length≤c0:=by
 have h1:=(Kd.R_reads' hR).2.1
 rw [List.length_set,←h.1]
 exact h1
theorem impl_some.cloneR (A0:Option Addr) (n0 c0:Nat) (l0:List RawS) (w:World) (hn0:l0.length=n0) (hr0:Kd.C rawK w A0 l0.length l0) (hc0:l0.length≤c0) (hl:l0.length≤1000000):
  Calls Try.prog 87 #[.slice A0 n0 c0] w fun e w'=>∃v0_:Value,e= .returned (v0_)∧Kd.R rawK 41 w' w.heap.size (fun _=>True) v0_ l0∧Below w.heap.size w w':=by
 subst hn0
 have LM:=zM hl
 clear hl
 have HR0:=zM hr0
 have HC0:=zM hc0
 clear hr0 hc0
 have HB:=zM (Below.refl w.heap.size w)
 have q22: ∀(w:World) (a:Option Addr) (n c n' c':Nat),(binOp .eql 30 (.slice a n c) (.slice none n' c')).run Try.prog w= .ok (.bool a.isNone) w:=fun w a n c n' c'=>Lib.run_eql_slice_nil w _ _ a n c n' c' Try.underlying30
 cases A0 with
 |none=>
  have hz:l0=[]:=by
   cases l0 with
   |nil=>rfl
   |cons x xs=>obtain ⟨ad,e,_⟩:=HR0.1.2.2 (by simp);cases e
  subst hz
  go_enter Try.func87,Try.ntmps87
  go_wp2
  go_ret
  exact ⟨_,rfl,Kd.R_nil _ _ _ _ _,Below.refl _ _⟩
 |some ad=>
  obtain ⟨y1,hy1⟩: ∃y_:List RawS,y_=([]:List RawS):=⟨_,rfl⟩
  have Ny1:=zM hy1
  clear hy1
  go_enter Try.func87,Try.ntmps87
  go_wp2_with (first|((with_reducible refine gate_dst (N:=5) rfl ?_);refine Kd.R_lit rawK _ 41 ?hg (N:=5) ?hd (xs:=([]:List RawS)) (inner:=[]) (ok:=fun _=>True) (okp:=fun _=>True) ?hr ?hp (fun _ hk=>hk) trivial (Below.refl _ _) (Nat.le_refl _) (by simp) ?_;(case hd=>rfl);(case hg=>rfl);(case hr=>exact zHH);(case hp=>exact (Reps.none _ _));intro v461 w5 ho6 hb hg_ hnew_;clear hg_ hnew_;(first|rw [←Ny1.1] at ho6|(simp only [Int.reduceToNat] at ho6;rw [←Ny1.1] at ho6));have n0_:=zM (Kd.R_lower ho6 (below_size HB.1));have n3_:=zM (below_step HB.1 hb);clear HB;have HO462:=n0_;have HB:=n3_;clear n0_ n3_;clear hb ho6)|((with_reducible refine gate_builtin (b:= .append) (xs:=#[.tmp 5,.tmp 6]) rfl ?_);at_builtin;refine Kd.R_append_rows rawK (w0:=w) w.heap.size rfl (.tmp 5) (.tmp 6) 30 41 (.slice none 0 0) 24 rfl Try.underlying30 info41 rfl (by decide) (by omega) v461 y1 l0 _ _ _ (fun _=>True) (fun _=>False) rfl rfl ?aO ?aR (fun _ _ h=>h) (fun _ h=>h.elim) ?aF ?aB ?aS ?aL ?_;(case aR=>exact zC (Kd.C_below HR0.1 HB.1));(case aB=>exact zB3);(case aF=>exact (fun _ _=>trivial));(case aO=>exact (zR HO462.1));(case aS=>exact (below_size zB3));(case aL=>have h1_:=LM.out;have h2_:y1.length=0:=(by rw [Ny1.1];rfl);rw [h2_];omega);intro v464 w9 ho hb hg hat;rw [Ny1.1,List.nil_append] at ho;have n2_:=zM hb;have n3_:=zM ho;clear HB;clear HO462;have HB:=n2_;have HO465:=n3_;clear n2_ n3_;clear ho hb hg hat))
  go_ret
  exact ⟨_,rfl,HO465.1,HB.1⟩
theorem impl_some.calls (k:Nat): ∀(A0:Option Addr) (c0:Nat) (l0:List Int) (A1:Option Addr) (c1:Nat) (l1:List (List (S37))) (r:Bool) (w:World) (hr0:Kd.C (Kd.int .i64) w A0 l0.length l0) (hc0:l0.length≤c0) (hr1:Kd.C (Kd.slice 37 k37) w A1 l1.length l1) (hc1:l1.length≤c1) (h:impl_some.f k l0 l1=some r),
  Calls Try.prog 47 #[.slice A0 l0.length c0,.slice A1 l1.length c1] w fun e w'=>e= .returned (.bool r)∧Below w.heap.size w w':=by
 induction k using Nat.strongRecOn with
 |_ k ih=>
 intro A0 c0 l0 A1 c1 l1 r w hr0 hc0 hr1 hc1 h
 cases k with
 |zero=>exact absurd h (by simp [impl_some.f])
 |succ k=>
 simp only [impl_some.f] at h
 have hlm_:l1.length≤1000000:=Decidable.byContradiction (fun q_=>by rw [if_neg q_] at h;exact absurd h (by simp))
 rw [if_pos hlm_] at h
 have HLM:=zM hlm_
 clear hlm_
 have hu37:=Try.underlying37
 have HR0:=zM hr0
 have HC0:=zM hc0
 clear hr0 hc0
 obtain ⟨rs_,hrs1_,hrs2_⟩:=raw_open hr1
 have HRS:=zM hrs1_
 have HRW:=zM hrs2_
 clear hrs1_ hrs2_
 have HR1:=zM hr1
 have HC1:=zM hc1
 clear hr1 hc1
 have HB:=zM (Below.refl w.heap.size w)
 have H:=h
 clear h
 have H':=zM H
 clear H
 go_enter Try.func47,Try.ntmps47
 go_wp2
 repeat (go_quiet (fail);try go_wp2)
 go_loopg [5,13] k (fun kq v5 v13 w'=>∃(x5_1:Bool) (x13_1:Int),v5= .bool x5_1∧v13= .int .i64 x13_1∧Aside0 (impl_some.l0 kq l0 l1 x5_1 l1 (l1.length:Int) x13_1=some r)∧Aside0 (kq≤k)∧Aside0 (Below w.heap.size w w'))
 case atStart=>exact ⟨(false),(0),zJJ,zJJ,H',⟨Nat.le_refl _⟩,⟨zB3⟩⟩
 case round=>
  clear H'
  obtain ⟨x5_1,x13_1,rfl,rfl,HA,HK1,HB⟩:=hrel
  cases gk with
  |zero=>exact absurd HA.1 (by simp [impl_some.l0])
  |succ k1=>
   have H:=HA.1
   clear HA
   simp only [impl_some.l0] at H
   by_cases c3:x13_1<(l1.length:Int)
   rotate_left
   ·rw [if_neg c3] at H
    have c3b0:=decide_eq_false c3
    clear c3
    obtain rfl:=Option.some.inj H
    go_wp2
    repeat (go_quiet (fail);try go_wp2)
    go_ret
    exact ⟨zE,zB3⟩
   rw [if_pos c3] at H
   have HX1_:=zM c3
   have c3b0:=decide_eq_true c3
   clear c3
   replace H:=zIp H
   obtain ⟨c4,H⟩:=H
   have HX0_:=zM c4
   have c4b0:=decide_eq_true c4
   clear c4
   replace H:=zIp H
   obtain ⟨c5,H⟩:=H
   have HX1_:=zM c5
   have c5b0:=decide_eq_true c5
   clear c5
   by_cases c6:((rd_L7 l1 x13_1).length:Int)=0
   ·rw [if_pos c6] at H
    have c6b0:(((rd_L7 l1 x13_1).length:Int) == 0)=true:=beq_iff_eq.mpr c6
    have c6b1:(((rd_L7 l1 x13_1).length:Int) != 0)=false:=bne_eq_false_iff_eq.mpr c6
    clear c6
    have H':=zM H
    clear H
    obtain ⟨p830,q830,ad830,A830_0,c830_0,e830,hx830_0,hl830_0,hi830_0⟩:=zRd (at_L7 HR1.1 x13_1)
    cases e830
    replace hx830_0:=zHx HB.1 hx830_0
    have HR830_0:=zM hi830_0
    have HC830_0:=zM hl830_0
    clear hi830_0 hl830_0
    go_wp2
    repeat (go_quiet (fail);try go_wp2)
    go_roundg k1
    case measure=>have:=HK1.1;omega
    case rel=>exact ⟨(x5_1),(wrap64 (x13_1+1)),zJJ,zJJ,H',⟨by have:=HK1.1;omega⟩,⟨zB3⟩⟩
   rw [if_neg c6] at H
   have c6b0:(((rd_L7 l1 x13_1).length:Int) == 0)=false:=beq_eq_false_iff_ne.mpr c6
   have c6b1:(((rd_L7 l1 x13_1).length:Int) != 0)=true:=bne_iff_ne.mpr c6
   have c6b2: ¬((rd_L7 l1 x13_1)=[]):=fun h_=>c6 (by rw [h_];rfl)
   replace H:=zIp H
   obtain ⟨c7,H⟩:=H
   have c7b0:=decide_eq_true c7
   have c7b1:decide (0<(rd_L7 l1 x13_1).length)=true:=decide_eq_true (by omega)
   clear c7
   have HC8:=zM H
   clear H
   obtain ⟨p830,q830,ad830,A830_0,c830_0,e830,hx830_0,hl830_0,hi830_0⟩:=zRd (at_L7 HR1.1 x13_1)
   cases e830
   replace hx830_0:=zHx HB.1 hx830_0
   have HR830_0:=zM hi830_0
   have HC830_0:=zM hl830_0
   clear hi830_0 hl830_0
   have p831:0≤(0:Int):=(by omega)
   have q831:0<((rd_L7 l1 x13_1).length:Int):=zA
   obtain ⟨ad831,e831,hx831_0,hx831_1,hx831_2⟩:=at_T37 HR830_0.1 0 p831 q831
   cases e831
   have qi831:(0<(rd_L7 l1 x13_1).length)=True:=eq_true (by omega)
   (try rw [show ((0:Int)).toNat=0 from rfl] at hx831_0)
   (try rw [show 0*3=0 from rfl] at hx831_0)
   (try rw [Addr.add_zero'] at hx831_0)
   (try rw [show ((0:Int)).toNat=0 from rfl] at hx831_1)
   (try rw [show 0*3=0 from rfl] at hx831_1)
   (try rw [Addr.add_zero'] at hx831_1)
   (try rw [show ((0:Int)).toNat=0 from rfl] at hx831_2)
   (try rw [show 0*3=0 from rfl] at hx831_2)
   (try rw [Addr.add_zero'] at hx831_2)
   replace hx831_0:=zHx HB.1 hx831_0
   replace hx831_1:=zHx HB.1 hx831_1
   replace hx831_2:=zHx HB.1 hx831_2
   replace p831:=eq_true p831
   replace q831:=eq_true q831
   go_upto_region 8 with (first|((with_reducible refine zBx 8 37 #[.int .i64 0,.int .i64 0,.int .i64 0] ?_);intro gb832 hg w9 hbox hb;have BK832:=zM hbox;have GW832:=zM (zW hg (below_size zB3));have GE832:=zM (zW hg (below_size zB3));replace HB:=zM (below_step zB3 hb);clear hb hbox hg;have hcz10:=zc_3 (w:=w9) BK832.1))
   repeat (go_quiet (first|((with_reducible refine zBx 8 37 #[.int .i64 0,.int .i64 0,.int .i64 0] ?_);intro gb832 hg w9 hbox hb;have BK832:=zM hbox;have GW832:=zM (zW hg (below_size zB3));have GE832:=zM (zW hg (below_size zB3));replace HB:=zM (below_step zB3 hb);clear hb hbox hg;have hcz10:=zc_3 (w:=w9) BK832.1));go_upto_region 8 with (first|((with_reducible refine zBx 8 37 #[.int .i64 0,.int .i64 0,.int .i64 0] ?_);intro gb832 hg w9 hbox hb;have BK832:=zM hbox;have GW832:=zM (zW hg (below_size zB3));have GE832:=zM (zW hg (below_size zB3));replace HB:=zM (below_step zB3 hb);clear hb hbox hg;have hcz10:=zc_3 (w:=w9) BK832.1)))
   (try simp only [Act.put,List.setIfInBounds_toArray,List.set_cons_zero,List.set_cons_succ])
   go_cut [42] (fun v42 wc=>∃(kq:Nat) (x42_7:Bool),v42= .bool x42_7∧Aside0 (impl_some.j1 kq l0 l1 true (rd_L7 l1 x13_1) l1 (l1.length:Int) x13_1 x42_7 ((rd_T37 (rd_L7 l1 x13_1) 0).f0) ((rd_T37 (rd_L7 l1 x13_1) 0).f1) ((rd_T37 (rd_L7 l1 x13_1) 0).f2)=some r)∧Aside0 (kq≤k1)∧Aside0 (wc.heap[gb832]? =some (.cells #[.int .i64 ((rd_T37 (rd_L7 l1 x13_1) 0).f0),.int .i64 ((rd_T37 (rd_L7 l1 x13_1) 0).f1),.int .i64 ((rd_T37 (rd_L7 l1 x13_1) 0).f2)] 37 (0,0)))∧Aside0 (Below w.heap.size w wc))
   case first=>
    have H:=HC8.1
    clear HC8
    replace H:=zO H
    obtain ⟨t833,A11,H⟩:=H
    by_cases c12:t833=true
    rotate_left
    ·replace c12:=Bool.eq_false_iff.mpr c12
     subst c12
     rw [if_neg zF] at H
     have H':=zM H
     clear H
     have hcz18:=zc_3 (w:=w9) BK832.1
     go_wp2_with (first|(go_at_call 86;(with_reducible refine (impl_isCell.calls ((rd_T37 (rd_L7 l1 x13_1) 0).f0) false _ A11.1).mono ?_);rintro e w' ⟨rfl,⟨nd,rfl⟩⟩;(try first|exact ⟨rfl,_,World.drewN_drewN _ _ _⟩|exact ⟨rfl,_,Eq.trans (World.drewN_drewN _ _ _) (congrArg (World.drewN _) (Nat.add_assoc _ _ _))⟩)))
     repeat (go_quiet (first|(go_at_call 86;(with_reducible refine (impl_isCell.calls ((rd_T37 (rd_L7 l1 x13_1) 0).f0) false _ A11.1).mono ?_);rintro e w' ⟨rfl,⟨nd,rfl⟩⟩;(try first|exact ⟨rfl,_,World.drewN_drewN _ _ _⟩|exact ⟨rfl,_,Eq.trans (World.drewN_drewN _ _ _) (congrArg (World.drewN _) (Nat.add_assoc _ _ _))⟩)));try go_wp2_with (first|(go_at_call 86;(with_reducible refine (impl_isCell.calls ((rd_T37 (rd_L7 l1 x13_1) 0).f0) false _ A11.1).mono ?_);rintro e w' ⟨rfl,⟨nd,rfl⟩⟩;(try first|exact ⟨rfl,_,World.drewN_drewN _ _ _⟩|exact ⟨rfl,_,Eq.trans (World.drewN_drewN _ _ _) (congrArg (World.drewN _) (Nat.add_assoc _ _ _))⟩))))
     go_meet
     case rel=>exact ⟨_,(true),zJJ,H',⟨by have:=HK1.1;first|omega|exact Nat.le_refl _⟩,⟨by exact zp3 (zK BK832.1)⟩,⟨zB3⟩⟩
    subst c12
    rw [if_pos rfl] at H
    by_cases c13:((rd_T37 (rd_L7 l1 x13_1) 0).f1)≥0
    rotate_left
    ·rw [if_neg c13] at H
     have c13b0:=decide_eq_false c13
     clear c13
     (first|rw [c13b0]|(simp only [i64_w,i32_w];rw [c13b0])|skip)
     have H':=zM H
     clear H
     have hcz17:=zc_3 (w:=w9) BK832.1
     go_wp2_with (first|(go_at_call 86;(with_reducible refine (impl_isCell.calls ((rd_T37 (rd_L7 l1 x13_1) 0).f0) true _ A11.1).mono ?_);rintro e w' ⟨rfl,⟨nd,rfl⟩⟩;(try first|exact ⟨rfl,_,World.drewN_drewN _ _ _⟩|exact ⟨rfl,_,Eq.trans (World.drewN_drewN _ _ _) (congrArg (World.drewN _) (Nat.add_assoc _ _ _))⟩)))
     repeat (go_quiet (first|(go_at_call 86;(with_reducible refine (impl_isCell.calls ((rd_T37 (rd_L7 l1 x13_1) 0).f0) true _ A11.1).mono ?_);rintro e w' ⟨rfl,⟨nd,rfl⟩⟩;(try first|exact ⟨rfl,_,World.drewN_drewN _ _ _⟩|exact ⟨rfl,_,Eq.trans (World.drewN_drewN _ _ _) (congrArg (World.drewN _) (Nat.add_assoc _ _ _))⟩)));try go_wp2_with (first|(go_at_call 86;(with_reducible refine (impl_isCell.calls ((rd_T37 (rd_L7 l1 x13_1) 0).f0) true _ A11.1).mono ?_);rintro e w' ⟨rfl,⟨nd,rfl⟩⟩;(try first|exact ⟨rfl,_,World.drewN_drewN _ _ _⟩|exact ⟨rfl,_,Eq.trans (World.drewN_drewN _ _ _) (congrArg (World.drewN _) (Nat.add_assoc _ _ _))⟩))))
     go_meet
     case rel=>exact ⟨_,(false),zJJ,H',⟨by have:=HK1.1;first|omega|exact Nat.le_refl _⟩,⟨by exact zp3 (zK BK832.1)⟩,⟨zB3⟩⟩
    rw [if_pos c13] at H
    have c13b0:=decide_eq_true c13
    clear c13
    (first|rw [c13b0]|(simp only [i64_w,i32_w];rw [c13b0])|skip)
    replace H:=zIt H
    obtain ⟨c14b0,H⟩:=H
    replace H:=zIt H
    obtain ⟨c15b0,H⟩:=H
    have H':=zM H
    clear H
    have hcz16:=zc_3 (w:=w9) BK832.1
    obtain ⟨p834,q834,ad834,e834,hx834_0⟩:=zRd (Kd.at_int HR0.1 ((rd_T37 (rd_L7 l1 x13_1) 0).f0))
    cases e834
    have hn834_0:ad834.block≠gb832:=Nat.ne_of_lt (Nat.lt_of_lt_of_le (by have:=World.block_lt_of_cell? _ _ hx834_0;first|rwa [add_block] at this|exact this) GW832.1)
    have hn834_1:ad834.block≠gb832:=Nat.ne_of_lt (Nat.lt_of_lt_of_le (by have:=World.block_lt_of_cell? _ _ hx834_0;first|rwa [add_block] at this|exact this) GW832.1)
    have hn834_2:ad834.block≠gb832:=Nat.ne_of_lt (Nat.lt_of_lt_of_le (by have:=World.block_lt_of_cell? _ _ hx834_0;first|rwa [add_block] at this|exact this) GW832.1)
    replace hx834_0:=zHx HB.1 hx834_0
    replace hx834_0:=(cell_far (p:=⟨gb832,0,none⟩) (by first|(rw [add_block];exact hn834_0)|(show (Addr.add _ _).block≠_;rw [add_block];exact hn834_0)|exact hn834_0) (.int .i64 ((rd_T37 (rd_L7 l1 x13_1) 0).f0))).trans hx834_0
    replace hx834_0:=(cell_far (p:=⟨gb832,1,none⟩) (by first|(rw [add_block];exact hn834_1)|(show (Addr.add _ _).block≠_;rw [add_block];exact hn834_1)|exact hn834_1) (.int .i64 ((rd_T37 (rd_L7 l1 x13_1) 0).f1))).trans hx834_0
    replace hx834_0:=(cell_far (p:=⟨gb832,2,none⟩) (by first|(rw [add_block];exact hn834_2)|(show (Addr.add _ _).block≠_;rw [add_block];exact hn834_2)|exact hn834_2) (.int .i64 ((rd_T37 (rd_L7 l1 x13_1) 0).f2))).trans hx834_0
    (try have hy834_0:=fun (n_:Nat)=>(show (((((w9.drewN n_).setCell ⟨gb832,0,none⟩ (.int .i64 ((rd_T37 (rd_L7 l1 x13_1) 0).f0))).setCell ⟨gb832,1,none⟩ (.int .i64 ((rd_T37 (rd_L7 l1 x13_1) 0).f1))).setCell ⟨gb832,2,none⟩ (.int .i64 ((rd_T37 (rd_L7 l1 x13_1) 0).f2)))).cell? _=some _ from hx834_0))
    clear hn834_0
    clear hn834_1
    clear hn834_2
    go_wp2_with (first|(go_at_call 86;(with_reducible refine (impl_isCell.calls ((rd_T37 (rd_L7 l1 x13_1) 0).f0) true _ A11.1).mono ?_);rintro e w' ⟨rfl,⟨nd,rfl⟩⟩;(try first|exact ⟨rfl,_,World.drewN_drewN _ _ _⟩|exact ⟨rfl,_,Eq.trans (World.drewN_drewN _ _ _) (congrArg (World.drewN _) (Nat.add_assoc _ _ _))⟩)))
    repeat (go_quiet (first|(go_at_call 86;(with_reducible refine (impl_isCell.calls ((rd_T37 (rd_L7 l1 x13_1) 0).f0) true _ A11.1).mono ?_);rintro e w' ⟨rfl,⟨nd,rfl⟩⟩;(try first|exact ⟨rfl,_,World.drewN_drewN _ _ _⟩|exact ⟨rfl,_,Eq.trans (World.drewN_drewN _ _ _) (congrArg (World.drewN _) (Nat.add_assoc _ _ _))⟩)));try go_wp2_with (first|(go_at_call 86;(with_reducible refine (impl_isCell.calls ((rd_T37 (rd_L7 l1 x13_1) 0).f0) true _ A11.1).mono ?_);rintro e w' ⟨rfl,⟨nd,rfl⟩⟩;(try first|exact ⟨rfl,_,World.drewN_drewN _ _ _⟩|exact ⟨rfl,_,Eq.trans (World.drewN_drewN _ _ _) (congrArg (World.drewN _) (Nat.add_assoc _ _ _))⟩))))
    go_meet
    case rel=>exact ⟨_,((((rd_T37 (rd_L7 l1 x13_1) 0).f1) != (rd l0 ((rd_T37 (rd_L7 l1 x13_1) 0).f0)))),zJJ,H',⟨by have:=HK1.1;first|omega|exact Nat.le_refl _⟩,⟨by exact zp3 (zK BK832.1)⟩,⟨zB3⟩⟩
   case rest=>
    clear HC8
    try clear qi8
    obtain ⟨kq,x42_7,rfl,HA,HJ7,BK832,HB⟩:=hcut
    cases kq with
    |zero=>exact absurd HA.1 (by simp [impl_some.j1])
    |succ kj7=>
     have H:=HA.1
     clear HA
     simp only [impl_some.j1] at H
     by_cases c19:x42_7=true
     ·subst c19
      rw [if_pos rfl] at H
      have H':=zM H
      clear H
      go_wp2
      repeat (go_quiet (fail);try go_wp2)
      go_roundg kj7
      case measure=>have:=HK1.1;have:=HJ7.1;omega
      case rel=>exact ⟨(true),(wrap64 (x13_1+1)),zJJ,zJJ,H',⟨by have:=HK1.1;have:=HJ7.1;omega⟩,⟨zB3⟩⟩
     replace c19:=Bool.eq_false_iff.mpr c19
     subst c19
     rw [if_neg zF] at H
     replace H:=zO H
     obtain ⟨t835,A20,H⟩:=H
     by_cases c21:((rd_T37 (rd_L7 l1 x13_1) 0).f2)≥0
     rotate_left
     ·rw [if_neg c21] at H
      have c21b0:=decide_eq_false c21
      clear c21
      replace H:=zIp H
      obtain ⟨c40,H⟩:=H
      have c40b0:=eq_true c40
      have c40b1:decide (1≤((rd_L7 l1 x13_1).length:Int))=true:=decide_eq_true c40
      clear c40
      generalize hy844:(((rd_L7 l1 x13_1).drop 1):List (S37))=y844 at H
      have Ny844:=zM hy844.symm
      clear hy844
      replace H:=zO H
      obtain ⟨t848,A41,H⟩:=H
      by_cases c42:t848=true
      ·subst c42
       rw [if_pos rfl] at H
       obtain rfl:=Option.some.inj H
       go_wp2_with (first|(go_at_call 35;(with_reducible refine (slices_Clone_int_int.calls _ _ l0 t835 _ ?side1 ?side2 A20.1).mono ?_);(case side1=>exact zC (Kd.C_below HR0.1 HB.1));(case side2=>exact HC0.1);rintro e w43 ⟨v836,rfl,ho0,hb⟩;have n0_:=zM (Kd.R_lower ho0 (below_size zB3));have n1_:=zM (zb BK832.1 hb);have n2_:=zM (below_step zB3 hb);clear BK832;clear HB;have HO837:=n0_;have BK832:=n1_;have HB:=n2_;clear n0_ n1_ n2_;clear hb ho0;have hcz44:=zc_3 (w:=w43) BK832.1;have q45:(1:Int)≤(((rd_L7 l1 x13_1).length:Int):Int):=zA;obtain ⟨i045,hi045,_,hsz45,_⟩:=info_parts info37;have hroom45:(rd_L7 l1 x13_1).length≤c830_0:=HC830_0.1;have hC45:Kd.C k37 _ (some ad831) (rd_L7 l1 x13_1).length (rd_L7 l1 x13_1):=HR830_0.1;have hcut45:=cut_from (P:=Try.prog) 41 37 .i64 Try.underlying41 hi045 3 hsz45 (some ad831) (rd_L7 l1 x13_1).length c830_0 1 (by omega) q45;have hr45:=Kd.C_drop (m:=(1:Int).toNat) (c:=c830_0) hC45 (by omega) hroom45;obtain ⟨A45,hA45⟩: ∃A_,A_=(if c830_0=(1:Int).toNat then (some ad831) else ((some ad831):Option Addr).map (·.add ((1:Int).toNat*3))):=⟨_,rfl⟩;obtain ⟨c45,hc45⟩: ∃c_,c_=c830_0-(1:Int).toNat:=⟨_,rfl⟩;have hy45:y844.length=(rd_L7 l1 x13_1).length-(1:Int).toNat:=(by rw [Ny844.1,List.length_drop]<;>omega);rw [show ((rd_L7 l1 x13_1)).drop (1:Int).toNat=y844 from Ny844.1.symm] at hr45;replace hr45:Kd.C k37 _ A45 y844.length y844:=(by rw [hA45];exact hr45);rw [←hy45,←hA45,←hc45] at hcut45;have HR847:=zM hr45;have HC847:=zM (show y844.length≤c45 from by rw [hy45,hc45];exact Nat.sub_le_sub_right hroom45 _);clear hr45 hC45 hroom45 hi045 hsz45 hc45;have KY45:=zM hy45;have KA45:=zM hA45;clear hy45 hA45;replace q45:=eq_true q45;obtain ⟨Ao46,co46,eo46⟩:=Kd.R_slice HO837.1;subst eo46)|(go_at_call 87;(with_reducible refine (impl_some.cloneR _ _ _ rs_ _ ?side1 ?side2 ?side3 ?side4).mono ?_);(case side1=>exact HRW.out.1);(case side2=>have h_:=HRS.out;rw [←HRW.out.1] at h_;repeat (first|exact (Kd.C_below h_ HB.1)|(with_reducible refine Kd.C_alloc ?_ _)|(with_reducible refine Kd.C_drewN ?_ _)|(with_reducible refine Kd.C_drew ?_)));(case side3=>rw [HRW.out.1];exact HC1.1);(case side4=>rw [HRW.out.1];exact HLM.out);rintro e wC_ ⟨vC_,rfl,hoC_,hb⟩;have n0_:=zM (Kd.R_lower hoC_ (below_size zB3));have n1_:=zM (zb BK832.1 hb);have n3_:=zM (Kd.R_below (zR HO837.1) hb);have n2_:=zM (below_step zB3 hb);clear BK832;clear HB;clear HO837;have HOC:=n0_;have BK832:=n1_;have HO837:=n3_;have HB:=n2_;clear n0_ n1_ n2_ n3_ hb hoC_;have hq_:(x13_1:Int)<((rs_.length:Int):Int):=(by rw [HRW.out.1];exact HX1_.out);have hp_:0≤(x13_1:Int):=HX0_.out;obtain ⟨gr_,cr_,er_,gbr_,glr_,clr_⟩:=Kd.R_form HOC.out (by omega);cases er_;have GBR:=zM gbr_;have GCR:=zM clr_;clear gbr_ glr_ clr_;obtain ⟨hxr_,hfr_⟩:=Kd.R_celln ⟨none,0,0⟩ HOC.out (x13_1:Int) hp_ hq_;have HPR:=Kd.R_putg HOC.out (x13_1:Int) ⟨A45,y844.length,c45⟩;replace hp_:=eq_true hp_;replace hq_:=eq_true hq_)|((with_reducible refine gate_store (t:=41) (p:=60) rfl ?_);refine store_event (t:=41) (p:=60) (v:=?vo_) (w1:=(wC_.setCell ⟨gr_,(x13_1:Int).toNat,none⟩ (.slice A45 y844.length c45))) ?hg ?ho ?hn ?hr ?_;(case ho=>rfl);(case hg=>rfl);(case hn=>rfl);(case hr=>exact zHH);intro wS_ hw;have hg:wC_.grownBy wS_ (some gr_):=(by rw [hw];exact HPR.2);have hp2_:Kd.R rawK 41 wS_ w.heap.size (fun _=>True) (.slice (some ⟨gr_,0,none⟩) rs_.length cr_) (rs_.set (x13_1:Int).toNat ⟨A45,y844.length,c45⟩):=(by rw [hw];exact HPR.1);clear HPR;have n0_:=zM (blk_grown (g:=gb832) (o:= .cells #[.int .i64 ((rd_T37 (rd_L7 l1 x13_1) 0).f0),.int .i64 ((rd_T37 (rd_L7 l1 x13_1) 0).f1),.int .i64 ((rd_T37 (rd_L7 l1 x13_1) 0).f2)] 37 (0,0)) BK832.1 hg (Kd.R_ne HOC.out BK832.1 (by decide)));have n1_:=zM hp2_;obtain ⟨cells_,hcells_⟩:=GCR.out;have n3_:=zM ((by rw [hw];exact Kd.R_set HO837.1 hcells_ (by intro q hq;first|(simp [Kd.int,Kd.scalar] at hq;subst hq;decide)|(revert q;decide)) _ _:Kd.R (Kd.int .i64) 3 wS_ w.heap.size _ _ _));have n2_:=zM ((by rw [hw];exact below_set (HB.1) GBR.out:Below w.heap.size w wS_));clear BK832;clear HOC;clear HO837;clear HB;have BK832:=n0_;have HOC:=n1_;have HO837:=n3_;have HB:=n2_;clear n0_ n1_ n2_ n3_;clear hg hw hp2_ hcells_)|(go_at_call 47;refine calls_of_args (args':=#[.slice Ao46 t835.length co46,.slice (some ⟨gr_,0,none⟩) (l1.set (x13_1:Int).toNat ((rd_L7 l1 x13_1).drop (1:Int).toNat)).length cr_]) (by first|(rw [(show (l1.set (x13_1:Int).toNat ((rd_L7 l1 x13_1).drop (1:Int).toNat)).length=rs_.length from by rw [List.length_set];exact HRW.out.1.symm)]<;>rfl)|rfl) ?_;(with_reducible refine (ih kj7 (by have:=HK1.1;have:=HJ7.1;omega) _ _ t835 _ _ (l1.set (x13_1:Int).toNat ((rd_L7 l1 x13_1).drop (1:Int).toNat)) true _ ?side1 ?side2 ?side3 ?side4 A41.1).mono ?_);(case side1=>exact zC (Kd.R_reads' HO837.1).2.2);(case side2=>exact (Kd.R_reads' HO837.1).2.1);(case side3=>exact raw_arg HRW.out zB3 (x13_1:Int).toNat Ny844.1 HC847.1 HR847.1 (zR HOC.out));(case side4=>exact raw_cap HRW.out (x13_1:Int).toNat HOC.out);rintro e w47 ⟨rfl,hb⟩;have n0_:=zM (Kd.R_below (zR HO837.1) hb);have n1_:=zM (zb BK832.1 hb);have n2_:=zM (below_step zB3 hb);clear HO837;clear BK832;clear HB;have HO837:=n0_;have BK832:=n1_;have HB:=n2_;clear n0_ n1_ n2_;clear hb))
       go_ret
       exact ⟨zE,zB3⟩
      replace c42:=Bool.eq_false_iff.mpr c42
      subst c42
      rw [if_neg zF] at H
      have H':=zM H
      clear H
      go_wp2_with (first|(go_at_call 35;(with_reducible refine (slices_Clone_int_int.calls _ _ l0 t835 _ ?side1 ?side2 A20.1).mono ?_);(case side1=>exact zC (Kd.C_below HR0.1 HB.1));(case side2=>exact HC0.1);rintro e w48 ⟨v836,rfl,ho0,hb⟩;have n0_:=zM (Kd.R_lower ho0 (below_size zB3));have n1_:=zM (zb BK832.1 hb);have n2_:=zM (below_step zB3 hb);clear BK832;clear HB;have HO837:=n0_;have BK832:=n1_;have HB:=n2_;clear n0_ n1_ n2_;clear hb ho0;have hcz49:=zc_3 (w:=w48) BK832.1;have q50:(1:Int)≤(((rd_L7 l1 x13_1).length:Int):Int):=zA;obtain ⟨i050,hi050,_,hsz50,_⟩:=info_parts info37;have hroom50:(rd_L7 l1 x13_1).length≤c830_0:=HC830_0.1;have hC50:Kd.C k37 _ (some ad831) (rd_L7 l1 x13_1).length (rd_L7 l1 x13_1):=HR830_0.1;have hcut50:=cut_from (P:=Try.prog) 41 37 .i64 Try.underlying41 hi050 3 hsz50 (some ad831) (rd_L7 l1 x13_1).length c830_0 1 (by omega) q50;have hr50:=Kd.C_drop (m:=(1:Int).toNat) (c:=c830_0) hC50 (by omega) hroom50;obtain ⟨A50,hA50⟩: ∃A_,A_=(if c830_0=(1:Int).toNat then (some ad831) else ((some ad831):Option Addr).map (·.add ((1:Int).toNat*3))):=⟨_,rfl⟩;obtain ⟨c50,hc50⟩: ∃c_,c_=c830_0-(1:Int).toNat:=⟨_,rfl⟩;have hy50:y844.length=(rd_L7 l1 x13_1).length-(1:Int).toNat:=(by rw [Ny844.1,List.length_drop]<;>omega);rw [show ((rd_L7 l1 x13_1)).drop (1:Int).toNat=y844 from Ny844.1.symm] at hr50;replace hr50:Kd.C k37 _ A50 y844.length y844:=(by rw [hA50];exact hr50);rw [←hy50,←hA50,←hc50] at hcut50;have HR847:=zM hr50;have HC847:=zM (show y844.length≤c50 from by rw [hy50,hc50];exact Nat.sub_le_sub_right hroom50 _);clear hr50 hC50 hroom50 hi050 hsz50 hc50;have KY50:=zM hy50;have KA50:=zM hA50;clear hy50 hA50;replace q50:=eq_true q50;obtain ⟨Ao51,co51,eo51⟩:=Kd.R_slice HO837.1;subst eo51)|(go_at_call 87;(with_reducible refine (impl_some.cloneR _ _ _ rs_ _ ?side1 ?side2 ?side3 ?side4).mono ?_);(case side1=>exact HRW.out.1);(case side2=>have h_:=HRS.out;rw [←HRW.out.1] at h_;repeat (first|exact (Kd.C_below h_ HB.1)|(with_reducible refine Kd.C_alloc ?_ _)|(with_reducible refine Kd.C_drewN ?_ _)|(with_reducible refine Kd.C_drew ?_)));(case side3=>rw [HRW.out.1];exact HC1.1);(case side4=>rw [HRW.out.1];exact HLM.out);rintro e wC_ ⟨vC_,rfl,hoC_,hb⟩;have n0_:=zM (Kd.R_lower hoC_ (below_size zB3));have n1_:=zM (zb BK832.1 hb);have n3_:=zM (Kd.R_below (zR HO837.1) hb);have n2_:=zM (below_step zB3 hb);clear BK832;clear HB;clear HO837;have HOC:=n0_;have BK832:=n1_;have HO837:=n3_;have HB:=n2_;clear n0_ n1_ n2_ n3_ hb hoC_;have hq_:(x13_1:Int)<((rs_.length:Int):Int):=(by rw [HRW.out.1];exact HX1_.out);have hp_:0≤(x13_1:Int):=HX0_.out;obtain ⟨gr_,cr_,er_,gbr_,glr_,clr_⟩:=Kd.R_form HOC.out (by omega);cases er_;have GBR:=zM gbr_;have GCR:=zM clr_;clear gbr_ glr_ clr_;obtain ⟨hxr_,hfr_⟩:=Kd.R_celln ⟨none,0,0⟩ HOC.out (x13_1:Int) hp_ hq_;have HPR:=Kd.R_putg HOC.out (x13_1:Int) ⟨A50,y844.length,c50⟩;replace hp_:=eq_true hp_;replace hq_:=eq_true hq_)|((with_reducible refine gate_store (t:=41) (p:=60) rfl ?_);refine store_event (t:=41) (p:=60) (v:=?vo_) (w1:=(wC_.setCell ⟨gr_,(x13_1:Int).toNat,none⟩ (.slice A50 y844.length c50))) ?hg ?ho ?hn ?hr ?_;(case ho=>rfl);(case hg=>rfl);(case hn=>rfl);(case hr=>exact zHH);intro wS_ hw;have hg:wC_.grownBy wS_ (some gr_):=(by rw [hw];exact HPR.2);have hp2_:Kd.R rawK 41 wS_ w.heap.size (fun _=>True) (.slice (some ⟨gr_,0,none⟩) rs_.length cr_) (rs_.set (x13_1:Int).toNat ⟨A50,y844.length,c50⟩):=(by rw [hw];exact HPR.1);clear HPR;have n0_:=zM (blk_grown (g:=gb832) (o:= .cells #[.int .i64 ((rd_T37 (rd_L7 l1 x13_1) 0).f0),.int .i64 ((rd_T37 (rd_L7 l1 x13_1) 0).f1),.int .i64 ((rd_T37 (rd_L7 l1 x13_1) 0).f2)] 37 (0,0)) BK832.1 hg (Kd.R_ne HOC.out BK832.1 (by decide)));have n1_:=zM hp2_;obtain ⟨cells_,hcells_⟩:=GCR.out;have n3_:=zM ((by rw [hw];exact Kd.R_set HO837.1 hcells_ (by intro q hq;first|(simp [Kd.int,Kd.scalar] at hq;subst hq;decide)|(revert q;decide)) _ _:Kd.R (Kd.int .i64) 3 wS_ w.heap.size _ _ _));have n2_:=zM ((by rw [hw];exact below_set (HB.1) GBR.out:Below w.heap.size w wS_));clear BK832;clear HOC;clear HO837;clear HB;have BK832:=n0_;have HOC:=n1_;have HO837:=n3_;have HB:=n2_;clear n0_ n1_ n2_ n3_;clear hg hw hp2_ hcells_)|(go_at_call 47;refine calls_of_args (args':=#[.slice Ao51 t835.length co51,.slice (some ⟨gr_,0,none⟩) (l1.set (x13_1:Int).toNat ((rd_L7 l1 x13_1).drop (1:Int).toNat)).length cr_]) (by first|(rw [(show (l1.set (x13_1:Int).toNat ((rd_L7 l1 x13_1).drop (1:Int).toNat)).length=rs_.length from by rw [List.length_set];exact HRW.out.1.symm)]<;>rfl)|rfl) ?_;(with_reducible refine (ih kj7 (by have:=HK1.1;have:=HJ7.1;omega) _ _ t835 _ _ (l1.set (x13_1:Int).toNat ((rd_L7 l1 x13_1).drop (1:Int).toNat)) false _ ?side1 ?side2 ?side3 ?side4 A41.1).mono ?_);(case side1=>exact zC (Kd.R_reads' HO837.1).2.2);(case side2=>exact (Kd.R_reads' HO837.1).2.1);(case side3=>exact raw_arg HRW.out zB3 (x13_1:Int).toNat Ny844.1 HC847.1 HR847.1 (zR HOC.out));(case side4=>exact raw_cap HRW.out (x13_1:Int).toNat HOC.out);rintro e w52 ⟨rfl,hb⟩;have n0_:=zM (Kd.R_below (zR HO837.1) hb);have n1_:=zM (zb BK832.1 hb);have n2_:=zM (below_step zB3 hb);clear HO837;clear BK832;clear HB;have HO837:=n0_;have BK832:=n1_;have HB:=n2_;clear n0_ n1_ n2_;clear hb))
      go_roundg kj7
      case measure=>have:=HK1.1;have:=HJ7.1;omega
      case rel=>exact ⟨(true),(wrap64 (x13_1+1)),zJJ,zJJ,H',⟨by have:=HK1.1;have:=HJ7.1;omega⟩,⟨zB3⟩⟩
     rw [if_pos c21] at H
     have c21b0:=decide_eq_true c21
     clear c21
     replace H:=zIt H
     obtain ⟨c22b0,H⟩:=H
     replace H:=zIt H
     obtain ⟨c23b0,H⟩:=H
     generalize hy838:((t835.set (((rd_T37 (rd_L7 l1 x13_1) 0).f0):Int).toNat ((rd_T37 (rd_L7 l1 x13_1) 0).f2)):List Int)=y838 at H
     have Ny838:=zM hy838.symm
     clear hy838
     replace H:=zIp H
     obtain ⟨c25,H⟩:=H
     have c25b0:=eq_true c25
     have c25b1:decide (1≤((rd_L7 l1 x13_1).length:Int))=true:=decide_eq_true c25
     clear c25
     generalize hy839:(((rd_L7 l1 x13_1).drop 1):List (S37))=y839 at H
     have Ny839:=zM hy839.symm
     clear hy839
     replace H:=zO H
     obtain ⟨t843,A26,H⟩:=H
     by_cases c27:t843=true
     ·subst c27
      rw [if_pos rfl] at H
      obtain rfl:=Option.some.inj H
      go_wp2_with (first|(go_at_call 35;(with_reducible refine (slices_Clone_int_int.calls _ _ l0 t835 _ ?side1 ?side2 A20.1).mono ?_);(case side1=>exact zC (Kd.C_below HR0.1 HB.1));(case side2=>exact HC0.1);rintro e w28 ⟨v836,rfl,ho0,hb⟩;have n0_:=zM (Kd.R_lower ho0 (below_size zB3));have n1_:=zM (zb BK832.1 hb);have n2_:=zM (below_step zB3 hb);clear BK832;clear HB;have HO837:=n0_;have BK832:=n1_;have HB:=n2_;clear n0_ n1_ n2_;clear hb ho0;have hcz29:=zc_3 (w:=w28) BK832.1;have p24:0≤(((rd_T37 (rd_L7 l1 x13_1) 0).f0):Int):=zA;have q24:(((rd_T37 (rd_L7 l1 x13_1) 0).f0):Int)<((t835.length:Int):Int):=zA;obtain ⟨go24,co24,eo24,gb24,gl24,cl24,HG24⟩:=Kd.R_form HO837.1 (by omega);(first|cases eo24|(injection eo24 with ea_ en_ ec_;(first|subst ea_|(injection ea_ with ea_;subst ea_));subst ec_;clear en_));have GB24:=zM gb24;have GG24:=zM HG24;clear gb24 gl24 HG24;obtain ⟨hx24_0,hf24_0⟩:=Kd.R_celln 0 HO837.1 (((rd_T37 (rd_L7 l1 x13_1) 0).f0):Int) p24 q24;replace p24:=eq_true p24;replace q24:=eq_true q24;obtain ⟨hy30_,hz30_⟩:=Kd.R_celln 0 HO837.1 (((rd_T37 (rd_L7 l1 x13_1) 0).f0):Int) zA zA;have HP30:=Kd.R_putg HO837.1 (((rd_T37 (rd_L7 l1 x13_1) 0).f0):Int) ((rd_T37 (rd_L7 l1 x13_1) 0).f2))|((with_reducible refine gate_store (t:=3) (p:=53) rfl ?_);(try (rw [drewN_self w28];generalize hq_:World.drewN w28 _=w28;have n0_:=zM (Kd.R_at hq_ HO837.1);have n1_:=zM (blk_at hq_ BK832.1);have n2_:=zM (below_at hq_ HB.1);clear hq_ HO837 BK832 HB;have HO837:=n0_;have BK832:=n1_;have HB:=n2_;clear n0_ n1_ n2_;(try (obtain ⟨hy30_,hz30_⟩:=Kd.R_celln 0 HO837.1 (((rd_T37 (rd_L7 l1 x13_1) 0).f0):Int) zA zA));(try (have HP30:=Kd.R_putg HO837.1 (((rd_T37 (rd_L7 l1 x13_1) 0).f0):Int) ((rd_T37 (rd_L7 l1 x13_1) 0).f2)))));refine store_event (t:=3) (p:=53) (v:=?vo_w31) (w1:=(w28.setCell ⟨go24,(((rd_T37 (rd_L7 l1 x13_1) 0).f0):Int).toNat,none⟩ (.int .i64 ((rd_T37 (rd_L7 l1 x13_1) 0).f2)))) ?hg ?ho ?hn ?hr ?_;(case ho=>rfl);(case hg=>rfl);(case hn=>rfl);(case hr=>exact zHH);intro w31 hw;have hg:w28.grownBy w31 (some go24):=(by rw [hw];exact HP30.2);have hp_:Kd.R (Kd.int .i64) 3 w31 w.heap.size (fun _=>True) (.slice (some ⟨go24,0,none⟩) t835.length co24) y838:=(by rw [hw,Ny838.1];exact HP30.1);clear HP30;have n0_:=zM (zg BK832.1 hg (Kd.R_ne HO837.1 BK832.1 (by decide)));have n1_:=zM hp_;have n2_:=zM ((by rw [hw];exact below_set (HB.1) GB24.1:Below w.heap.size w w31));clear BK832;clear HO837;clear HB;have BK832:=n0_;have HO837:=n1_;have HB:=n2_;clear n0_ n1_ n2_;clear hg hw hp_;have q32:(1:Int)≤(((rd_L7 l1 x13_1).length:Int):Int):=zA;obtain ⟨i032,hi032,_,hsz32,_⟩:=info_parts info37;have hroom32:(rd_L7 l1 x13_1).length≤c830_0:=HC830_0.1;have hC32:Kd.C k37 _ (some ad831) (rd_L7 l1 x13_1).length (rd_L7 l1 x13_1):=HR830_0.1;have hcut32:=cut_from (P:=Try.prog) 41 37 .i64 Try.underlying41 hi032 3 hsz32 (some ad831) (rd_L7 l1 x13_1).length c830_0 1 (by omega) q32;have hr32:=Kd.C_drop (m:=(1:Int).toNat) (c:=c830_0) hC32 (by omega) hroom32;obtain ⟨A32,hA32⟩: ∃A_,A_=(if c830_0=(1:Int).toNat then (some ad831) else ((some ad831):Option Addr).map (·.add ((1:Int).toNat*3))):=⟨_,rfl⟩;obtain ⟨c32,hc32⟩: ∃c_,c_=c830_0-(1:Int).toNat:=⟨_,rfl⟩;have hy32:y839.length=(rd_L7 l1 x13_1).length-(1:Int).toNat:=(by rw [Ny839.1,List.length_drop]<;>omega);rw [show ((rd_L7 l1 x13_1)).drop (1:Int).toNat=y839 from Ny839.1.symm] at hr32;replace hr32:Kd.C k37 _ A32 y839.length y839:=(by rw [hA32];exact hr32);rw [←hy32,←hA32,←hc32] at hcut32;have HR842:=zM hr32;have HC842:=zM (show y839.length≤c32 from by rw [hy32,hc32];exact Nat.sub_le_sub_right hroom32 _);clear hr32 hC32 hroom32 hi032 hsz32 hc32;have KY32:=zM hy32;have KA32:=zM hA32;clear hy32 hA32;replace q32:=eq_true q32)|(go_at_call 87;(with_reducible refine (impl_some.cloneR _ _ _ rs_ _ ?side1 ?side2 ?side3 ?side4).mono ?_);(case side1=>exact HRW.out.1);(case side2=>have h_:=HRS.out;rw [←HRW.out.1] at h_;repeat (first|exact (Kd.C_below h_ HB.1)|(with_reducible refine Kd.C_alloc ?_ _)|(with_reducible refine Kd.C_drewN ?_ _)|(with_reducible refine Kd.C_drew ?_)));(case side3=>rw [HRW.out.1];exact HC1.1);(case side4=>rw [HRW.out.1];exact HLM.out);rintro e wC_ ⟨vC_,rfl,hoC_,hb⟩;have n0_:=zM (Kd.R_lower hoC_ (below_size zB3));have n1_:=zM (zb BK832.1 hb);have n3_:=zM (Kd.R_below (zR HO837.1) hb);have n2_:=zM (below_step zB3 hb);clear BK832;clear HB;clear HO837;have HOC:=n0_;have BK832:=n1_;have HO837:=n3_;have HB:=n2_;clear n0_ n1_ n2_ n3_ hb hoC_;have hq_:(x13_1:Int)<((rs_.length:Int):Int):=(by rw [HRW.out.1];exact HX1_.out);have hp_:0≤(x13_1:Int):=HX0_.out;obtain ⟨gr_,cr_,er_,gbr_,glr_,clr_⟩:=Kd.R_form HOC.out (by omega);cases er_;have GBR:=zM gbr_;have GCR:=zM clr_;clear gbr_ glr_ clr_;obtain ⟨hxr_,hfr_⟩:=Kd.R_celln ⟨none,0,0⟩ HOC.out (x13_1:Int) hp_ hq_;have HPR:=Kd.R_putg HOC.out (x13_1:Int) ⟨A32,y839.length,c32⟩;replace hp_:=eq_true hp_;replace hq_:=eq_true hq_)|((with_reducible refine gate_store (t:=41) (p:=60) rfl ?_);refine store_event (t:=41) (p:=60) (v:=?vo_) (w1:=(wC_.setCell ⟨gr_,(x13_1:Int).toNat,none⟩ (.slice A32 y839.length c32))) ?hg ?ho ?hn ?hr ?_;(case ho=>rfl);(case hg=>rfl);(case hn=>rfl);(case hr=>exact zHH);intro wS_ hw;have hg:wC_.grownBy wS_ (some gr_):=(by rw [hw];exact HPR.2);have hp2_:Kd.R rawK 41 wS_ w.heap.size (fun _=>True) (.slice (some ⟨gr_,0,none⟩) rs_.length cr_) (rs_.set (x13_1:Int).toNat ⟨A32,y839.length,c32⟩):=(by rw [hw];exact HPR.1);clear HPR;have n0_:=zM (blk_grown (g:=gb832) (o:= .cells #[.int .i64 ((rd_T37 (rd_L7 l1 x13_1) 0).f0),.int .i64 ((rd_T37 (rd_L7 l1 x13_1) 0).f1),.int .i64 ((rd_T37 (rd_L7 l1 x13_1) 0).f2)] 37 (0,0)) BK832.1 hg (Kd.R_ne HOC.out BK832.1 (by decide)));have n1_:=zM hp2_;obtain ⟨cells_,hcells_⟩:=GCR.out;have n3_:=zM ((by rw [hw];exact Kd.R_set HO837.1 hcells_ (by intro q hq;first|(simp [Kd.int,Kd.scalar] at hq;subst hq;decide)|(revert q;decide)) _ _:Kd.R (Kd.int .i64) 3 wS_ w.heap.size _ _ _));have n2_:=zM ((by rw [hw];exact below_set (HB.1) GBR.out:Below w.heap.size w wS_));clear BK832;clear HOC;clear HO837;clear HB;have BK832:=n0_;have HOC:=n1_;have HO837:=n3_;have HB:=n2_;clear n0_ n1_ n2_ n3_;clear hg hw hp2_ hcells_)|(go_at_call 47;refine calls_of_args (args':=#[.slice (some ⟨go24,0,none⟩) y838.length co24,.slice (some ⟨gr_,0,none⟩) (l1.set (x13_1:Int).toNat ((rd_L7 l1 x13_1).drop (1:Int).toNat)).length cr_]) (by first|(rw [show y838.length=t835.length from (Kd.R_reads' HO837.1).1.symm,(show (l1.set (x13_1:Int).toNat ((rd_L7 l1 x13_1).drop (1:Int).toNat)).length=rs_.length from by rw [List.length_set];exact HRW.out.1.symm)]<;>rfl)|rfl) ?_;(with_reducible refine (ih kj7 (by have:=HK1.1;have:=HJ7.1;omega) _ _ y838 _ _ (l1.set (x13_1:Int).toNat ((rd_L7 l1 x13_1).drop (1:Int).toNat)) true _ ?side1 ?side2 ?side3 ?side4 A26.1).mono ?_);(case side1=>exact zC (Kd.R_reads' HO837.1).2.2);(case side2=>rw [show y838.length=t835.length from (Kd.R_reads' HO837.1).1.symm];exact (Kd.R_reads' HO837.1).2.1);(case side3=>exact raw_arg HRW.out zB3 (x13_1:Int).toNat Ny839.1 HC842.1 HR842.1 (zR HOC.out));(case side4=>exact raw_cap HRW.out (x13_1:Int).toNat HOC.out);rintro e w33 ⟨rfl,hb⟩;have n0_:=zM (Kd.R_below (zR HO837.1) hb);have n1_:=zM (zb BK832.1 hb);have n2_:=zM (below_step zB3 hb);clear HO837;clear BK832;clear HB;have HO837:=n0_;have BK832:=n1_;have HB:=n2_;clear n0_ n1_ n2_;clear hb))
      go_ret
      exact ⟨zE,zB3⟩
     replace c27:=Bool.eq_false_iff.mpr c27
     subst c27
     rw [if_neg zF] at H
     have H':=zM H
     clear H
     go_wp2_with (first|(go_at_call 35;(with_reducible refine (slices_Clone_int_int.calls _ _ l0 t835 _ ?side1 ?side2 A20.1).mono ?_);(case side1=>exact zC (Kd.C_below HR0.1 HB.1));(case side2=>exact HC0.1);rintro e w34 ⟨v836,rfl,ho0,hb⟩;have n0_:=zM (Kd.R_lower ho0 (below_size zB3));have n1_:=zM (zb BK832.1 hb);have n2_:=zM (below_step zB3 hb);clear BK832;clear HB;have HO837:=n0_;have BK832:=n1_;have HB:=n2_;clear n0_ n1_ n2_;clear hb ho0;have hcz35:=zc_3 (w:=w34) BK832.1;have p24:0≤(((rd_T37 (rd_L7 l1 x13_1) 0).f0):Int):=zA;have q24:(((rd_T37 (rd_L7 l1 x13_1) 0).f0):Int)<((t835.length:Int):Int):=zA;obtain ⟨go24,co24,eo24,gb24,gl24,cl24,HG24⟩:=Kd.R_form HO837.1 (by omega);(first|cases eo24|(injection eo24 with ea_ en_ ec_;(first|subst ea_|(injection ea_ with ea_;subst ea_));subst ec_;clear en_));have GB24:=zM gb24;have GG24:=zM HG24;clear gb24 gl24 HG24;obtain ⟨hx24_0,hf24_0⟩:=Kd.R_celln 0 HO837.1 (((rd_T37 (rd_L7 l1 x13_1) 0).f0):Int) p24 q24;replace p24:=eq_true p24;replace q24:=eq_true q24;obtain ⟨hy36_,hz36_⟩:=Kd.R_celln 0 HO837.1 (((rd_T37 (rd_L7 l1 x13_1) 0).f0):Int) zA zA;have HP36:=Kd.R_putg HO837.1 (((rd_T37 (rd_L7 l1 x13_1) 0).f0):Int) ((rd_T37 (rd_L7 l1 x13_1) 0).f2))|((with_reducible refine gate_store (t:=3) (p:=53) rfl ?_);(try (rw [drewN_self w34];generalize hq_:World.drewN w34 _=w34;(try have hx24_0:=cell_at17 hq_ hx24_0);(try have hf24_0:=frozen_at17 hq_ hf24_0);have n0_:=zM (Kd.R_at hq_ HO837.1);have n1_:=zM (blk_at hq_ BK832.1);have n2_:=zM (below_at hq_ HB.1);clear hq_ HO837 BK832 HB;have HO837:=n0_;have BK832:=n1_;have HB:=n2_;clear n0_ n1_ n2_;(try (obtain ⟨hy36_,hz36_⟩:=Kd.R_celln 0 HO837.1 (((rd_T37 (rd_L7 l1 x13_1) 0).f0):Int) zA zA));(try (have HP36:=Kd.R_putg HO837.1 (((rd_T37 (rd_L7 l1 x13_1) 0).f0):Int) ((rd_T37 (rd_L7 l1 x13_1) 0).f2)))));refine store_event (t:=3) (p:=53) (v:=?vo_w37) (w1:=(w34.setCell ⟨go24,(((rd_T37 (rd_L7 l1 x13_1) 0).f0):Int).toNat,none⟩ (.int .i64 ((rd_T37 (rd_L7 l1 x13_1) 0).f2)))) ?hg ?ho ?hn ?hr ?_;(case ho=>rfl);(case hg=>rfl);(case hn=>rfl);(case hr=>exact zHH);intro w37 hw;have hg:w34.grownBy w37 (some go24):=(by rw [hw];exact HP36.2);have hp_:Kd.R (Kd.int .i64) 3 w37 w.heap.size (fun _=>True) (.slice (some ⟨go24,0,none⟩) t835.length co24) y838:=(by rw [hw,Ny838.1];exact HP36.1);clear HP36;have n0_:=zM (zg BK832.1 hg (Kd.R_ne HO837.1 BK832.1 (by decide)));have n1_:=zM hp_;have n2_:=zM ((by rw [hw];exact below_set (HB.1) GB24.1:Below w.heap.size w w37));clear BK832;clear HO837;clear HB;have BK832:=n0_;have HO837:=n1_;have HB:=n2_;clear n0_ n1_ n2_;clear hg hw hp_;have q38:(1:Int)≤(((rd_L7 l1 x13_1).length:Int):Int):=zA;obtain ⟨i038,hi038,_,hsz38,_⟩:=info_parts info37;have hroom38:(rd_L7 l1 x13_1).length≤c830_0:=HC830_0.1;have hC38:Kd.C k37 _ (some ad831) (rd_L7 l1 x13_1).length (rd_L7 l1 x13_1):=HR830_0.1;have hcut38:=cut_from (P:=Try.prog) 41 37 .i64 Try.underlying41 hi038 3 hsz38 (some ad831) (rd_L7 l1 x13_1).length c830_0 1 (by omega) q38;have hr38:=Kd.C_drop (m:=(1:Int).toNat) (c:=c830_0) hC38 (by omega) hroom38;obtain ⟨A38,hA38⟩: ∃A_,A_=(if c830_0=(1:Int).toNat then (some ad831) else ((some ad831):Option Addr).map (·.add ((1:Int).toNat*3))):=⟨_,rfl⟩;obtain ⟨c38,hc38⟩: ∃c_,c_=c830_0-(1:Int).toNat:=⟨_,rfl⟩;have hy38:y839.length=(rd_L7 l1 x13_1).length-(1:Int).toNat:=(by rw [Ny839.1,List.length_drop]<;>omega);rw [show ((rd_L7 l1 x13_1)).drop (1:Int).toNat=y839 from Ny839.1.symm] at hr38;replace hr38:Kd.C k37 _ A38 y839.length y839:=(by rw [hA38];exact hr38);rw [←hy38,←hA38,←hc38] at hcut38;have HR842:=zM hr38;have HC842:=zM (show y839.length≤c38 from by rw [hy38,hc38];exact Nat.sub_le_sub_right hroom38 _);clear hr38 hC38 hroom38 hi038 hsz38 hc38;have KY38:=zM hy38;have KA38:=zM hA38;clear hy38 hA38;replace q38:=eq_true q38)|(go_at_call 87;(with_reducible refine (impl_some.cloneR _ _ _ rs_ _ ?side1 ?side2 ?side3 ?side4).mono ?_);(case side1=>exact HRW.out.1);(case side2=>have h_:=HRS.out;rw [←HRW.out.1] at h_;repeat (first|exact (Kd.C_below h_ HB.1)|(with_reducible refine Kd.C_alloc ?_ _)|(with_reducible refine Kd.C_drewN ?_ _)|(with_reducible refine Kd.C_drew ?_)));(case side3=>rw [HRW.out.1];exact HC1.1);(case side4=>rw [HRW.out.1];exact HLM.out);rintro e wC_ ⟨vC_,rfl,hoC_,hb⟩;have n0_:=zM (Kd.R_lower hoC_ (below_size zB3));have n1_:=zM (zb BK832.1 hb);have n3_:=zM (Kd.R_below (zR HO837.1) hb);have n2_:=zM (below_step zB3 hb);clear BK832;clear HB;clear HO837;have HOC:=n0_;have BK832:=n1_;have HO837:=n3_;have HB:=n2_;clear n0_ n1_ n2_ n3_ hb hoC_;have hq_:(x13_1:Int)<((rs_.length:Int):Int):=(by rw [HRW.out.1];exact HX1_.out);have hp_:0≤(x13_1:Int):=HX0_.out;obtain ⟨gr_,cr_,er_,gbr_,glr_,clr_⟩:=Kd.R_form HOC.out (by omega);cases er_;have GBR:=zM gbr_;have GCR:=zM clr_;clear gbr_ glr_ clr_;obtain ⟨hxr_,hfr_⟩:=Kd.R_celln ⟨none,0,0⟩ HOC.out (x13_1:Int) hp_ hq_;have HPR:=Kd.R_putg HOC.out (x13_1:Int) ⟨A38,y839.length,c38⟩;replace hp_:=eq_true hp_;replace hq_:=eq_true hq_)|((with_reducible refine gate_store (t:=41) (p:=60) rfl ?_);refine store_event (t:=41) (p:=60) (v:=?vo_) (w1:=(wC_.setCell ⟨gr_,(x13_1:Int).toNat,none⟩ (.slice A38 y839.length c38))) ?hg ?ho ?hn ?hr ?_;(case ho=>rfl);(case hg=>rfl);(case hn=>rfl);(case hr=>exact zHH);intro wS_ hw;have hg:wC_.grownBy wS_ (some gr_):=(by rw [hw];exact HPR.2);have hp2_:Kd.R rawK 41 wS_ w.heap.size (fun _=>True) (.slice (some ⟨gr_,0,none⟩) rs_.length cr_) (rs_.set (x13_1:Int).toNat ⟨A38,y839.length,c38⟩):=(by rw [hw];exact HPR.1);clear HPR;have n0_:=zM (blk_grown (g:=gb832) (o:= .cells #[.int .i64 ((rd_T37 (rd_L7 l1 x13_1) 0).f0),.int .i64 ((rd_T37 (rd_L7 l1 x13_1) 0).f1),.int .i64 ((rd_T37 (rd_L7 l1 x13_1) 0).f2)] 37 (0,0)) BK832.1 hg (Kd.R_ne HOC.out BK832.1 (by decide)));have n1_:=zM hp2_;obtain ⟨cells_,hcells_⟩:=GCR.out;have n3_:=zM ((by rw [hw];exact Kd.R_set HO837.1 hcells_ (by intro q hq;first|(simp [Kd.int,Kd.scalar] at hq;subst hq;decide)|(revert q;decide)) _ _:Kd.R (Kd.int .i64) 3 wS_ w.heap.size _ _ _));have n2_:=zM ((by rw [hw];exact below_set (HB.1) GBR.out:Below w.heap.size w wS_));clear BK832;clear HOC;clear HO837;clear HB;have BK832:=n0_;have HOC:=n1_;have HO837:=n3_;have HB:=n2_;clear n0_ n1_ n2_ n3_;clear hg hw hp2_ hcells_)|(go_at_call 47;refine calls_of_args (args':=#[.slice (some ⟨go24,0,none⟩) y838.length co24,.slice (some ⟨gr_,0,none⟩) (l1.set (x13_1:Int).toNat ((rd_L7 l1 x13_1).drop (1:Int).toNat)).length cr_]) (by first|(rw [show y838.length=t835.length from (Kd.R_reads' HO837.1).1.symm,(show (l1.set (x13_1:Int).toNat ((rd_L7 l1 x13_1).drop (1:Int).toNat)).length=rs_.length from by rw [List.length_set];exact HRW.out.1.symm)]<;>rfl)|rfl) ?_;(with_reducible refine (ih kj7 (by have:=HK1.1;have:=HJ7.1;omega) _ _ y838 _ _ (l1.set (x13_1:Int).toNat ((rd_L7 l1 x13_1).drop (1:Int).toNat)) false _ ?side1 ?side2 ?side3 ?side4 A26.1).mono ?_);(case side1=>exact zC (Kd.R_reads' HO837.1).2.2);(case side2=>rw [show y838.length=t835.length from (Kd.R_reads' HO837.1).1.symm];exact (Kd.R_reads' HO837.1).2.1);(case side3=>exact raw_arg HRW.out zB3 (x13_1:Int).toNat Ny839.1 HC842.1 HR842.1 (zR HOC.out));(case side4=>exact raw_cap HRW.out (x13_1:Int).toNat HOC.out);rintro e w39 ⟨rfl,hb⟩;have n0_:=zM (Kd.R_below (zR HO837.1) hb);have n1_:=zM (zb BK832.1 hb);have n2_:=zM (below_step zB3 hb);clear HO837;clear BK832;clear HB;have HO837:=n0_;have BK832:=n1_;have HB:=n2_;clear n0_ n1_ n2_;clear hb))
     go_roundg kj7
     case measure=>have:=HK1.1;have:=HJ7.1;omega
     case rel=>exact ⟨(true),(wrap64 (x13_1+1)),zJJ,zJJ,H',⟨by have:=HK1.1;have:=HJ7.1;omega⟩,⟨zB3⟩⟩

/-! ### impl_SeqOk: function 13 -/
def impl_SeqOk.l0:Nat→List Int→List (List (S37))→Int→List (List (S37))→Int→Int→Option (Bool)
 |0,_,_,_,_,_,_=>none
 |k+1,x0,x1,x5,x8,x9,x10=>if x10<x9 then (if 0≤x10 then (if x10<(x8.length:Int) then (impl_SeqOk.l0 k x0 x1 (wrap64 (x5+((rd_L7 x8 x10).length:Int))) x8 x9 (wrap64 (x10+1))) else (none)) else (none)) else ((impl_memOk.f k x0).bind fun t850=>(if t850=true then (if (x1.length:Int)≤8 then (if x5≤12 then ((impl_some.f k x0 x1).bind fun t851=>(some t851)) else (some false)) else (some false)) else (some false)))
def impl_SeqOk.f (k:Nat) (l0:List Int) (l1:List (List (S37))):Option (Bool):=impl_SeqOk.l0 k l0 l1 0 l1 (l1.length:Int) 0
theorem impl_SeqOk.mono_l: ∀k,(∀y0 y1 y2 y3 y4 y5,LeO (impl_SeqOk.l0 k y0 y1 y2 y3 y4 y5) (impl_SeqOk.l0 (k+1) y0 y1 y2 y3 y4 y5))
 |0=>fun _ _ _ _ _ _ r h=>by simp [impl_SeqOk.l0] at h
 |k+1=>by
  have ih0:=impl_SeqOk.mono_l k
  ·intros
   unfold impl_SeqOk.l0
   have mo0:=@impl_memOk.mono
   have mo1:=@impl_some.mono
   exact zL
theorem impl_SeqOk.mono: ∀a0 a1 k,LeO (impl_SeqOk.f k a0 a1) (impl_SeqOk.f (k+1) a0 a1):=by
 intro a0 a1 k
 have ih0:=impl_SeqOk.mono_l k
 unfold impl_SeqOk.f
 have mo0:=@impl_memOk.mono
 have mo1:=@impl_some.mono
 exact zL
theorem impl_SeqOk.calls (k:Nat) (A0:Option Addr) (c0:Nat) (l0:List Int) (A1:Option Addr) (c1:Nat) (l1:List (List (S37))) (r:Bool) (w:World) (hr0:Kd.C (Kd.int .i64) w A0 l0.length l0) (hc0:l0.length≤c0) (hr1:Kd.C (Kd.slice 37 k37) w A1 l1.length l1) (hc1:l1.length≤c1) (h:impl_SeqOk.f k l0 l1=some r):
  Calls Try.prog 13 #[.slice A0 l0.length c0,.slice A1 l1.length c1] w fun e w'=>e= .returned (.bool r)∧Below w.heap.size w w':=by
 have HR0:=zM hr0
 have HC0:=zM hc0
 clear hr0 hc0
 have HR1:=zM hr1
 have HC1:=zM hc1
 clear hr1 hc1
 have HB:=zM (Below.refl w.heap.size w)
 unfold impl_SeqOk.f at h
 have H:=h
 clear h
 have H':=zM H
 clear H
 go_enter Try.func13,Try.ntmps13
 go_wp2
 go_loopg [5,10] k (fun kq v5 v10 w'=>∃(x5_1:Int) (x10_1:Int),v5= .int .i64 x5_1∧v10= .int .i64 x10_1∧Aside0 (impl_SeqOk.l0 kq l0 l1 x5_1 l1 (l1.length:Int) x10_1=some r)∧Aside0 (kq≤k)∧Aside0 (Below w.heap.size w w'))
 case atStart=>exact ⟨(0),(0),zJJ,zJJ,H',⟨Nat.le_refl _⟩,⟨zB3⟩⟩
 case round=>
  clear H'
  obtain ⟨x5_1,x10_1,rfl,rfl,HA,HK1,HB⟩:=hrel
  cases gk with
  |zero=>exact absurd HA.1 (by simp [impl_SeqOk.l0])
  |succ k1=>
   have H:=HA.1
   clear HA
   simp only [impl_SeqOk.l0] at H
   by_cases c3:x10_1<(l1.length:Int)
   ·rw [if_pos c3] at H
    have c3b0:=decide_eq_true c3
    clear c3
    replace H:=zIt H
    obtain ⟨c4b0,H⟩:=H
    replace H:=zIt H
    obtain ⟨c5b0,H⟩:=H
    have H':=zM H
    clear H
    obtain ⟨p849,q849,ad849,A849_0,c849_0,e849,hx849_0,hl849_0,hi849_0⟩:=zRd (at_L7 HR1.1 x10_1)
    cases e849
    replace hx849_0:=zHx HB.1 hx849_0
    have HR849_0:=zM hi849_0
    have HC849_0:=zM hl849_0
    clear hi849_0 hl849_0
    go_wp2
    go_roundg k1
    case measure=>have:=HK1.1;omega
    case rel=>exact ⟨(wrap64 (x5_1+((rd_L7 l1 x10_1).length:Int))),(wrap64 (x10_1+1)),zJJ,zJJ,H',⟨by have:=HK1.1;omega⟩,⟨zB3⟩⟩
   rw [if_neg c3] at H
   have c3b0:=decide_eq_false c3
   clear c3
   replace H:=zO H
   obtain ⟨t850,A6,H⟩:=H
   by_cases c7:t850=true
   rotate_left
   ·replace c7:=Bool.eq_false_iff.mpr c7
    subst c7
    rw [if_neg zF] at H
    obtain rfl:=Option.some.inj H
    go_wp2_with (first|((with_reducible refine zG Try.func34 20 #[.slice A0 l0.length c0] ?_);(with_reducible refine (impl_memOk.calls k1 _ _ l0 false _ ?side1 ?side2 A6.1).mono ?_);(case side1=>exact zC (Kd.C_below HR0.1 HB.1));(case side2=>exact HC0.1);rintro e w' ⟨rfl,⟨nd,rfl⟩⟩;refine ⟨_,rfl,?_⟩))
    go_ret
    exact ⟨zE,zB3⟩
   subst c7
   rw [if_pos rfl] at H
   by_cases c8:(l1.length:Int)≤8
   rotate_left
   ·rw [if_neg c8] at H
    have c8b0:=decide_eq_false c8
    have c8b1:decide (l1.length≤8)=false:=decide_eq_false (by omega)
    clear c8
    obtain rfl:=Option.some.inj H
    go_wp2_with (first|((with_reducible refine zG Try.func34 20 #[.slice A0 l0.length c0] ?_);(with_reducible refine (impl_memOk.calls k1 _ _ l0 true _ ?side1 ?side2 A6.1).mono ?_);(case side1=>exact zC (Kd.C_below HR0.1 HB.1));(case side2=>exact HC0.1);rintro e w' ⟨rfl,⟨nd,rfl⟩⟩;refine ⟨_,rfl,?_⟩))
    go_ret
    exact ⟨zE,zB3⟩
   rw [if_pos c8] at H
   have c8b0:=decide_eq_true c8
   have c8b1:decide (l1.length≤8)=true:=decide_eq_true (by omega)
   clear c8
   by_cases c9:x5_1≤12
   rotate_left
   ·rw [if_neg c9] at H
    have c9b0:=decide_eq_false c9
    clear c9
    obtain rfl:=Option.some.inj H
    go_wp2_with (first|((with_reducible refine zG Try.func34 20 #[.slice A0 l0.length c0] ?_);(with_reducible refine (impl_memOk.calls k1 _ _ l0 true _ ?side1 ?side2 A6.1).mono ?_);(case side1=>exact zC (Kd.C_below HR0.1 HB.1));(case side2=>exact HC0.1);rintro e w' ⟨rfl,⟨nd,rfl⟩⟩;refine ⟨_,rfl,?_⟩))
    go_ret
    exact ⟨zE,zB3⟩
   rw [if_pos c9] at H
   have c9b0:=decide_eq_true c9
   clear c9
   replace H:=zO H
   obtain ⟨t851,A10,H⟩:=H
   obtain rfl:=Option.some.inj H
   go_wp2_with (first|((with_reducible refine zG Try.func34 20 #[.slice A0 l0.length c0] ?_);(with_reducible refine (impl_memOk.calls k1 _ _ l0 true _ ?side1 ?side2 A6.1).mono ?_);(case side1=>exact zC (Kd.C_below HR0.1 HB.1));(case side2=>exact HC0.1);rintro e w' ⟨rfl,⟨nd,rfl⟩⟩;refine ⟨_,rfl,?_⟩)|(go_at_call 47;(with_reducible refine (impl_some.calls k1 _ _ l0 _ _ l1 t851 _ ?side1 ?side2 ?side3 ?side4 A10.1).mono ?_);(case side1=>repeat (first|exact (Kd.C_below HR0.1 zB3)|(with_reducible refine Kd.C_alloc ?_ _)|(with_reducible refine Kd.C_drewN ?_ _)|(with_reducible refine Kd.C_drew ?_)));(case side2=>exact HC0.1);(case side3=>repeat (first|exact (Kd.C_below HR1.1 zB3)|(with_reducible refine Kd.C_alloc ?_ _)|(with_reducible refine Kd.C_drewN ?_ _)|(with_reducible refine Kd.C_drew ?_)));(case side4=>exact HC1.1);rintro e w11 ⟨rfl,hb⟩;replace HB:=zM (below_step zB3 hb);clear hb))
   go_ret
   exact ⟨zE,zB3⟩

end Go.Proofs.Ytaakcbgpmabaaaa.PFnSeen
