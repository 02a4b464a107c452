-- made by wip/tools/myprint.py out of the seat's translation
import Derived.Test.YtpcgecacaemalaaPFnStopsx0
import Derived.Test.YtpcgecacaemalaaPFnStopsx3
import Derived.Test.YtpcgecacaemalaaPFnStopsx4
import Derived.Test.YtpcgecacaemalaaPFnStopsx5
namespace Go.Proofs.Ytpcgecacaemalaa.PFnStops
open Go.RowKit Go.Proofs.YtpcgecacaemalaaW.PrintWords Go.Proofs.YtpcgecacaemalaaW.PrintLast Go.Proofs.YtpcgecacaemalaaW.PrintMore
attribute [local go_sem] max2_int min2_int max_two min_two max_three min_three max_four min_four -- for this text's walks alone
set_option linter.unusedVariables false
set_option linter.unusedSimpArgs false
set_option maxHeartbeats 8000000
set_option maxRecDepth 100000

/-! ### spec_l24Places: function 77 -/
def spec_l24Places.l0:Nat→List Int→Int→Option (Bool)
 |0,_,_=>none
 |k+1,x0,x3=>if x3<(x0.length:Int) then (if 0≤x3 then ((spec_l1In.f (rd x0 x3) 0 23).bind fun t604=>(if t604=true then (spec_l24Places.l0 k x0 (wrap64 (x3+1))) else (some false))) else (none)) else (some (decide ((x0.length:Int)≤24)))
def spec_l24Places.f (k:Nat) (l0:List Int):Option (Bool):=spec_l24Places.l0 k l0 0
theorem spec_l24Places.mono_l: ∀k,(∀y0 y1,LeO (spec_l24Places.l0 k y0 y1) (spec_l24Places.l0 (k+1) y0 y1))
 |0=>fun _ _ r h=>by simp [spec_l24Places.l0] at h
 |k+1=>by
  have ih0:=spec_l24Places.mono_l k
  ·intros
   unfold spec_l24Places.l0
   exact zL
theorem spec_l24Places.mono: ∀a0 k,LeO (spec_l24Places.f k a0) (spec_l24Places.f (k+1) a0):=by
 intro a0 k
 have ih0:=spec_l24Places.mono_l k
 unfold spec_l24Places.f
 exact zL
theorem spec_l24Places.calls (k:Nat) (A0:Option Addr) (c0:Nat) (l0:List Int) (r:Bool) (w:World) (hr0:Kd.C (Kd.int .i64) w A0 l0.length l0) (hc0:l0.length≤c0) (h:spec_l24Places.f k l0=some r):
  Calls Try.prog 77 #[.slice A0 l0.length c0] w fun e w'=>e= .returned (.bool r)∧Drawn0 w w':=by
 have HR0:=zM hr0
 have HC0:=zM hc0
 clear hr0 hc0
 unfold spec_l24Places.f at h
 have H:=h
 clear h
 have H':=zM H
 clear H
 go_enter Try.func77,Try.ntmps77
 go_wp2
 go_loopg [3] k (fun kq v3 w'=>∃(x3_1:Int),v3= .int .i64 x3_1∧Aside0 (spec_l24Places.l0 kq l0 x3_1=some r)∧Aside0 (kq≤k)∧Drawn0 w w')
 case atStart=>exact ⟨(0),zJJ,H',⟨Nat.le_refl _⟩,zDD⟩
 case round=>
  clear H'
  obtain ⟨x3_1,rfl,HA,HK1,⟨m1,rfl⟩⟩:=hrel
  cases gk with
  |zero=>exact absurd HA.1 (by simp [spec_l24Places.l0])
  |succ k1=>
   have H:=HA.1
   clear HA
   simp only [spec_l24Places.l0] at H
   by_cases c2:x3_1<(l0.length:Int)
   rotate_left
   ·rw [if_neg c2] at H
    have c2b0:=decide_eq_false c2
    clear c2
    obtain rfl:=Option.some.inj H
    go_wp2
    go_ret
    exact ⟨zJJ,zDD⟩
   rw [if_pos c2] at H
   have c2b0:=decide_eq_true c2
   clear c2
   replace H:=zIt H
   obtain ⟨c3b0,H⟩:=H
   replace H:=zO H
   obtain ⟨t604,A4,H⟩:=H
   by_cases c5:t604=true
   rotate_left
   ·replace c5:=Bool.eq_false_iff.mpr c5
    subst c5
    rw [if_neg zF] at H
    obtain rfl:=Option.some.inj H
    obtain ⟨p603,q603,ad603,e603,hx603_0⟩:=zRd (Kd.at_int HR0.1 x3_1)
    cases e603
    go_wp2_with (first|((with_reducible refine zG Try.func68 14 #[.int .i64 (rd l0 x3_1),.int .i64 0,.int .i64 23] ?_);(with_reducible refine (spec_l1In.calls (rd l0 x3_1) 0 23 false _ A4.1).mono ?_);rintro e w' ⟨rfl,⟨nd,rfl⟩⟩;refine ⟨_,rfl,?_⟩))
    go_ret
    exact ⟨zJJ,zDD⟩
   subst c5
   rw [if_pos rfl] at H
   have H':=zM H
   clear H
   obtain ⟨p603,q603,ad603,e603,hx603_0⟩:=zRd (Kd.at_int HR0.1 x3_1)
   cases e603
   go_wp2_with (first|((with_reducible refine zG Try.func68 14 #[.int .i64 (rd l0 x3_1),.int .i64 0,.int .i64 23] ?_);(with_reducible refine (spec_l1In.calls (rd l0 x3_1) 0 23 true _ A4.1).mono ?_);rintro e w' ⟨rfl,⟨nd,rfl⟩⟩;refine ⟨_,rfl,?_⟩))
   go_roundg k1
   case measure=>have:=HK1.1;omega
   case rel=>exact ⟨(wrap64 (x3_1+1)),zJJ,H',⟨by have:=HK1.1;omega⟩,zDD⟩

/-! ### spec_WatchOk: function 16 -/
def spec_WatchOk.f (k:Nat) (l0_0:List Int) (l0_1:List Int):Option (Bool):=(spec_l24Places.f k l0_0).bind fun t606=>(if t606=true then ((spec_l24Places.f k l0_1).bind fun t607=>(some t607)) else (some false))
theorem spec_WatchOk.mono: ∀a0 a1 k,LeO (spec_WatchOk.f k a0 a1) (spec_WatchOk.f (k+1) a0 a1):=by
 intro a0 a1 k
 unfold spec_WatchOk.f
 have mo0:=@spec_l24Places.mono
 exact zL
theorem spec_WatchOk.calls (k:Nat) (A0_0:Option Addr) (c0_0:Nat) (l0_0:List Int) (A0_1:Option Addr) (c0_1:Nat) (l0_1:List Int) (r:Bool) (w:World) (hr0_0:Kd.C (Kd.int .i64) w A0_0 l0_0.length l0_0) (hc0_0:l0_0.length≤c0_0) (hr0_1:Kd.C (Kd.int .i64) w A0_1 l0_1.length l0_1) (hc0_1:l0_1.length≤c0_1) (h:spec_WatchOk.f k l0_0 l0_1=some r):
  Calls Try.prog 16 #[.agg #[.slice A0_0 l0_0.length c0_0,.slice A0_1 l0_1.length c0_1]] w fun e w'=>e= .returned (.bool r)∧Below w.heap.size w w':=by
 have hu27:=Try.underlying27
 have HR0_0:=zM hr0_0
 have HC0_0:=zM hc0_0
 clear hr0_0 hc0_0
 have HR0_1:=zM hr0_1
 have HC0_1:=zM hc0_1
 clear hr0_1 hc0_1
 have HB:=zM (Below.refl w.heap.size w)
 unfold spec_WatchOk.f at h
 have H:=h
 clear h
 replace H:=zO H
 obtain ⟨t606,A2,H⟩:=H
 by_cases c3:t606=true
 rotate_left
 ·replace c3:=Bool.eq_false_iff.mpr c3
  subst c3
  rw [if_neg zF] at H
  obtain rfl:=Option.some.inj H
  go_enter Try.func16,Try.ntmps16
  go_wp2_with (first|((with_reducible refine zBx 1 27 #[.slice A0_0 l0_0.length c0_0,.slice A0_1 l0_1.length c0_1] ?_);intro gb605 hg w7 hbox hb;have BK605:=zM hbox;have GW605:=zM (zW hg (below_size zB0));have GE605:=zM (zW hg (below_size zB0));replace HB:=zM (below_step zB0 hb);clear hb hbox hg;have hcz8:=zc_2 (w:=w7) BK605.1)|((with_reducible refine zG Try.func77 5 #[.slice A0_0 l0_0.length c0_0] ?_);(with_reducible refine (spec_l24Places.calls k _ _ l0_0 false _ ?side1 ?side2 A2.1).mono ?_);(case side1=>exact zC (Kd.C_below HR0_0.1 HB.1));(case side2=>exact HC0_0.1);rintro e w' ⟨rfl,⟨nd,rfl⟩⟩;refine ⟨_,rfl,?_⟩))
  go_ret
  exact ⟨zE,zB0⟩
 subst c3
 rw [if_pos rfl] at H
 replace H:=zO H
 obtain ⟨t607,A4,H⟩:=H
 obtain rfl:=Option.some.inj H
 go_enter Try.func16,Try.ntmps16
 go_wp2_with (first|((with_reducible refine zBx 1 27 #[.slice A0_0 l0_0.length c0_0,.slice A0_1 l0_1.length c0_1] ?_);intro gb605 hg w5 hbox hb;have BK605:=zM hbox;have GW605:=zM (zW hg (below_size zB0));have GE605:=zM (zW hg (below_size zB0));replace HB:=zM (below_step zB0 hb);clear hb hbox hg;have hcz6:=zc_2 (w:=w5) BK605.1)|((with_reducible refine zG Try.func77 5 #[.slice A0_0 l0_0.length c0_0] ?_);(with_reducible refine (spec_l24Places.calls k _ _ l0_0 true _ ?side1 ?side2 A2.1).mono ?_);(case side1=>exact zC (Kd.C_below HR0_0.1 HB.1));(case side2=>exact HC0_0.1);rintro e w' ⟨rfl,⟨nd,rfl⟩⟩;refine ⟨_,rfl,?_⟩)|(go_at_call 77;(with_reducible refine (spec_l24Places.calls k _ _ l0_1 t607 _ ?side1 ?side2 A4.1).mono ?_);(case side1=>repeat (first|exact (Kd.C_below HR0_1.1 zB0)|(with_reducible refine Kd.C_alloc ?_ _)|(with_reducible refine Kd.C_drewN ?_ _)|(with_reducible refine Kd.C_drew ?_)));(case side2=>exact HC0_1.1);rintro e w' ⟨rfl,⟨nd,rfl⟩⟩))
 go_ret
 exact ⟨zE,zB0⟩

/-! ### spec_l9Copy: function 104 -/
def spec_l9Copy.f (l0_0:List Int) (a0_1:Int) (a0_2:Int):Option (List Int×Int×Int):=(some (([]:List Int):List Int)).bind fun y610=>(if y610.length+l0_0.length<17592186044416 then (some ((y610++l0_0),a0_1,a0_2)) else (none))
theorem spec_l9Copy.calls (A0_0:Option Addr) (c0_0:Nat) (l0_0:List Int) (a0_1:Int) (a0_2:Int) (r1:List Int) (r2:Int) (r3:Int) (w:World) (hr0_0:Kd.C (Kd.int .i64) w A0_0 l0_0.length l0_0) (hc0_0:l0_0.length≤c0_0) (h:spec_l9Copy.f l0_0 a0_1 a0_2=some (r1,r2,r3)):
  Calls Try.prog 104 #[.agg #[.slice A0_0 l0_0.length c0_0,.int .i64 a0_1,.int .i64 a0_2]] w fun e w'=>∃v0_:Value,e= .returned (.agg #[v0_,.int .i64 r2,.int .i64 r3])∧Kd.R (Kd.int .i64) 3 w' w.heap.size (fun _=>True) v0_ r1∧Below w.heap.size w w':=by
 have hu53:=Try.underlying53
 have HR0_0:=zM hr0_0
 have HC0_0:=zM hc0_0
 clear hr0_0 hc0_0
 have HB:=zM (Below.refl w.heap.size w)
 unfold spec_l9Copy.f at h
 have H:=h
 clear h
 replace H:=zY H
 obtain ⟨y610,Ny610,H⟩:=H
 replace H:=zIn H
 obtain ⟨LMc2,H⟩:=H
 generalize hy613:((y610++l0_0):List Int)=y613 at H
 have Ny613:=zM hy613.symm
 clear hy613
 simp only [Option.some.injEq,Prod.mk.injEq] at H
 obtain ⟨rfl,rfl,rfl⟩:=H
 go_enter Try.func104,Try.ntmps104
 go_wp2_with (first|((with_reducible refine zBx 1 53 #[.slice A0_0 l0_0.length c0_0,.int .i64 a0_1,.int .i64 a0_2] ?_);intro gb608 hg w3 hbox hb;have BK608:=zM hbox;have GW608:=zM (zW hg (below_size zB0));have GE608:=zM (zW hg (below_size zB0));replace HB:=zM (below_step zB0 hb);clear hb hbox hg)|((with_reducible refine zBx 2 53 #[.slice none 0 0,.int .i64 0,.int .i64 0] ?_);intro gb609 hg w4 hbox hb;have BK609:=zM hbox;have GW609:=zM (zW hg (below_size zB0));have GE609:=zM (zW hg (below_size zB0));replace HB:=zM (below_step zB0 hb);have NB608_609:=zM ((zn BK608.1 hg:gb608≠gb609));have NB609_608:=zM ((zm BK608.1 hg:gb609≠gb608));replace BK608:=zM (zb BK608.1 hb);clear hb hbox hg)|((with_reducible refine gate_dst (N:=3) rfl ?_);refine Kd.R_lit (Kd.int .i64) _ 3 ?hg (N:=3) ?hd (xs:=([]:List Int)) (inner:=[]) (ok:=fun _=>True) (okp:=fun _=>True) ?hr ?hp (fun _ hk=>hk) trivial (Below.refl _ _) (Nat.le_refl _) (by simp) ?_;(case hd=>rfl);(case hg=>rfl);(case hr=>exact zHH);(case hp=>exact (Reps.none _ _));intro v611 w5 ho6 hb hg_ hnew_;clear hg_ hnew_;(first|rw [←Ny610.1] at ho6|(simp only [Int.reduceToNat] at ho6;rw [←Ny610.1] at ho6));have HO612:=zM (Kd.R_lower ho6 (below_size zB0));replace BK608:=zM (zb BK608.1 hb);replace BK609:=zM (zb BK609.1 hb);replace HB:=zM (below_step zB0 hb);clear hb ho6;have hnb7:=NB608_609.1;have hnc7:=NB609_608.1;have hcz8:=zc_3 (w:=w5) BK608.1)|((with_reducible refine gate_builtin (b:= .append) (xs:=#[.tmp 3,.tmp 5]) rfl ?_);at_builtin;refine Kd.R_append_rows (Kd.int .i64) (w0:=w) w.heap.size rfl (.tmp 3) (.tmp 5) 24 3 (.int .i64 0) 8 rfl Try.underlying24 info3 rfl (by decide) (by omega) v611 y610 l0_0 _ _ _ (fun _=>True) (fun _=>False) rfl rfl ?aO ?aR (fun _ _ h=>h) (fun _ h=>h.elim) ?aF ?aB ?aS ?aL ?_;(case aR=>exact zC (Kd.C_below HR0_0.1 HB.1));(case aB=>exact zB0);(case aF=>exact (fun _ _=>trivial));(case aO=>exact (zR HO612.1));(case aS=>exact (below_size zB0));(case aL=>have:=LMc2.out;omega);intro v614 w9 ho hb hg hat;rw [←Ny613.1] at ho;replace BK608:=zM (zg BK608.1 hg (Kd.R_ne HO612.1 BK608.1 (by decide)));replace BK609:=zM (zg BK609.1 hg (Kd.R_ne HO612.1 BK609.1 (by decide)));replace HB:=zM hb;have HO615:=zM ho;clear HO612;clear ho hb hg hat;obtain ⟨Ao10,co10,eo10⟩:=Kd.R_slice HO615.1;subst eo10;have hcz11:=zc_3 (w:=w9) BK608.1;have hcz12:=zc_3 (w:=w9) BK609.1))
 refine bodyPost_ret (results_cell_row rfl _ _ gb609 53 #[.slice Ao10 y613.length co10,.int .i64 a0_1,.int .i64 a0_2] (0,0) _ rfl zPq Try.underlying53 rfl (by kernel_rfl)) rfl ?_
 exact ⟨_,zE,by refine zrR ?_;exact Kd.R_mono (zfR (zfR (zfR (zgR (Kd.R_types (Kd.R_types HO615.1 BK608.1 (by decide)) BK609.1 (by decide)))))) (fun _ hk=>trivial),zB0⟩

/-! ### spec_Decode: function 106 -/
def spec_Decode.f (a0:Int):Option (Int×Int×Int×Int×Int×Bool):=(spec_l1In.f a0 0 65535).bind fun t617=>(if t617=true then ((spec_InsOk.f (Int.tmod a0 16) (Int.tmod (wrap64 (Int.tdiv a0 16)) 4) (Int.tmod (wrap64 (Int.tdiv a0 64)) 4) (Int.tmod (wrap64 (Int.tdiv a0 256)) 4) (wrap64 (Int.tdiv a0 1024))).bind fun t619=>(if t619=true then (some (Int.tmod a0 16,Int.tmod (wrap64 (Int.tdiv a0 16)) 4,Int.tmod (wrap64 (Int.tdiv a0 64)) 4,Int.tmod (wrap64 (Int.tdiv a0 256)) 4,wrap64 (Int.tdiv a0 1024),true)) else (some (0,0,0,0,0,false)))) else (some (0,0,0,0,0,false)))
theorem spec_Decode.calls (a0:Int) (r1:Int) (r2:Int) (r3:Int) (r4:Int) (r5:Int) (r6:Bool) (w:World) (h:spec_Decode.f a0=some (r1,r2,r3,r4,r5,r6)):
  Calls Try.prog 106 #[.int .i64 a0] w fun e w'=>e= .returned (.tuple #[.agg #[.int .i64 r1,.int .i64 r2,.int .i64 r3,.int .i64 r4,.int .i64 r5],.bool r6])∧Below w.heap.size w w':=by
 have hu109:=Try.underlying109
 have HB:=zM (Below.refl w.heap.size w)
 unfold spec_Decode.f at h
 have H:=h
 clear h
 replace H:=zO H
 obtain ⟨t617,A2,H⟩:=H
 by_cases c3:t617=true
 rotate_left
 ·replace c3:=Bool.eq_false_iff.mpr c3
  subst c3
  rw [if_neg zF] at H
  simp only [Option.some.injEq,Prod.mk.injEq] at H
  obtain ⟨rfl,rfl,rfl,rfl,rfl,rfl⟩:=H
  go_enter Try.func106,Try.ntmps106
  go_wp2_with (first|((with_reducible refine zBx 2 109 #[.int .i64 0,.int .i64 0,.int .i64 0,.int .i64 0,.int .i64 0] ?_);intro gb616 hg w19 hbox hb;have BK616:=zM hbox;have GW616:=zM (zW hg (below_size zB0));have GE616:=zM (zW hg (below_size zB0));replace HB:=zM (below_step zB0 hb);clear hb hbox hg)|((with_reducible refine zG Try.func68 6 #[.int .i64 a0,.int .i64 0,.int .i64 65535] ?_);(with_reducible refine (spec_l1In.calls a0 0 65535 false _ A2.1).mono ?_);rintro e w' ⟨rfl,⟨nd,rfl⟩⟩;refine ⟨_,rfl,?_⟩;(try (rw [drewN_self w19];generalize hq_:World.drewN w19 _=w19;have n0_:Aside0 (w19.heap[gb616]? =some (.cells #[.int .i64 0,.int .i64 0,.int .i64 0,.int .i64 0,.int .i64 0] 109 (0,0))):=⟨by rw [←hq_];exact (zK BK616.1)⟩;have n1_:Aside0 (Below w.heap.size w w19):=⟨by rw [←hq_];exact zB0⟩;clear BK616 HB hq_;have BK616:=n0_;have HB:=n1_;clear n0_ n1_));have hcz20:=zc_5 (w:=w19) BK616.1))
  refine bodyPost_ret (results_ct rfl _ _ gb616 109 #[.int .i64 0,.int .i64 0,.int .i64 0,.int .i64 0,.int .i64 0] (0,0) _ rfl (by exact zp5 (zK BK616.1)) Try.underlying109 rfl (by kernel_rfl)) rfl ?_
  exact ⟨zE,zB0⟩
 subst c3
 rw [if_pos rfl] at H
 replace H:=zO H
 obtain ⟨t619,A4,H⟩:=H
 by_cases c5:t619=true
 rotate_left
 ·replace c5:=Bool.eq_false_iff.mpr c5
  subst c5
  rw [if_neg zF] at H
  simp only [Option.some.injEq,Prod.mk.injEq] at H
  obtain ⟨rfl,rfl,rfl,rfl,rfl,rfl⟩:=H
  go_enter Try.func106,Try.ntmps106
  go_wp2_with (first|((with_reducible refine zBx 2 109 #[.int .i64 0,.int .i64 0,.int .i64 0,.int .i64 0,.int .i64 0] ?_);intro gb616 hg w13 hbox hb;have BK616:=zM hbox;have GW616:=zM (zW hg (below_size zB0));have GE616:=zM (zW hg (below_size zB0));replace HB:=zM (below_step zB0 hb);clear hb hbox hg)|((with_reducible refine zG Try.func68 6 #[.int .i64 a0,.int .i64 0,.int .i64 65535] ?_);(with_reducible refine (spec_l1In.calls a0 0 65535 true _ A2.1).mono ?_);rintro e w' ⟨rfl,⟨nd,rfl⟩⟩;refine ⟨_,rfl,?_⟩;(try (rw [drewN_self w13];generalize hq_:World.drewN w13 _=w13;have n0_:Aside0 (w13.heap[gb616]? =some (.cells #[.int .i64 0,.int .i64 0,.int .i64 0,.int .i64 0,.int .i64 0] 109 (0,0))):=⟨by rw [←hq_];exact (zK BK616.1)⟩;have n1_:Aside0 (Below w.heap.size w w13):=⟨by rw [←hq_];exact zB0⟩;clear BK616 HB hq_;have BK616:=n0_;have HB:=n1_;clear n0_ n1_)))|((with_reducible refine zBx 4 109 #[.int .i64 0,.int .i64 0,.int .i64 0,.int .i64 0,.int .i64 0] ?_);intro gb618 hg w14 hbox hb;have BK618:=zM hbox;have GW618:=zM (zW hg (below_size zB0));have GE618:=zM (zW hg (below_size zB0));replace HB:=zM (below_step zB0 hb);have NB616_618:=zM ((zn BK616.1 hg:gb616≠gb618));have NB618_616:=zM ((zm BK616.1 hg:gb618≠gb616));replace BK616:=zM (zb BK616.1 hb);clear hb hbox hg;have hnb15:=NB618_616.1;have hnc15:=NB616_618.1;have hcz16:=zc_5 (w:=w14) BK618.1)|((with_reducible refine zG Try.func124 24 #[.agg #[.int .i64 (Int.tmod a0 16),.int .i64 (Int.tmod (wrap64 (Int.tdiv a0 16)) 4),.int .i64 (Int.tmod (wrap64 (Int.tdiv a0 64)) 4),.int .i64 (Int.tmod (wrap64 (Int.tdiv a0 256)) 4),.int .i64 (wrap64 (Int.tdiv a0 1024))]] ?_);(with_reducible refine (spec_InsOk.calls (Int.tmod a0 16) (Int.tmod (wrap64 (Int.tdiv a0 16)) 4) (Int.tmod (wrap64 (Int.tdiv a0 64)) 4) (Int.tmod (wrap64 (Int.tdiv a0 256)) 4) (wrap64 (Int.tdiv a0 1024)) false _ A4.1).mono ?_);rintro e w17 ⟨rfl,hb⟩;refine ⟨_,rfl,?_⟩;replace BK616:=zM (zf BK616.1 hb);replace BK618:=zM (blk_below (g:=gb618) (o:= .cells #[.int .i64 (Int.tmod a0 16),.int .i64 (Int.tmod (wrap64 (Int.tdiv a0 16)) 4),.int .i64 (Int.tmod (wrap64 (Int.tdiv a0 64)) 4),.int .i64 (Int.tmod (wrap64 (Int.tdiv a0 256)) 4),.int .i64 (wrap64 (Int.tdiv a0 1024))] 109 (0,0)) (by exact zp5 (zK BK618.1)) hb);replace HB:=zM (below_step zB0 hb);clear hb;have hcz18:=zc_5 (w:=w17) BK616.1))
  refine bodyPost_ret (results_ct rfl _ _ gb616 109 #[.int .i64 0,.int .i64 0,.int .i64 0,.int .i64 0,.int .i64 0] (0,0) _ rfl (by exact zp5 (zK BK616.1)) Try.underlying109 rfl (by kernel_rfl)) rfl ?_
  exact ⟨zE,zB0⟩
 subst c5
 rw [if_pos rfl] at H
 simp only [Option.some.injEq,Prod.mk.injEq] at H
 obtain ⟨rfl,rfl,rfl,rfl,rfl,rfl⟩:=H
 go_enter Try.func106,Try.ntmps106
 go_wp2_with (first|((with_reducible refine zBx 2 109 #[.int .i64 0,.int .i64 0,.int .i64 0,.int .i64 0,.int .i64 0] ?_);intro gb616 hg w6 hbox hb;have BK616:=zM hbox;have GW616:=zM (zW hg (below_size zB0));have GE616:=zM (zW hg (below_size zB0));replace HB:=zM (below_step zB0 hb);clear hb hbox hg)|((with_reducible refine zG Try.func68 6 #[.int .i64 a0,.int .i64 0,.int .i64 65535] ?_);(with_reducible refine (spec_l1In.calls a0 0 65535 true _ A2.1).mono ?_);rintro e w' ⟨rfl,⟨nd,rfl⟩⟩;refine ⟨_,rfl,?_⟩;(try (rw [drewN_self w6];generalize hq_:World.drewN w6 _=w6;have n0_:Aside0 (w6.heap[gb616]? =some (.cells #[.int .i64 0,.int .i64 0,.int .i64 0,.int .i64 0,.int .i64 0] 109 (0,0))):=⟨by rw [←hq_];exact (zK BK616.1)⟩;have n1_:Aside0 (Below w.heap.size w w6):=⟨by rw [←hq_];exact zB0⟩;clear BK616 HB hq_;have BK616:=n0_;have HB:=n1_;clear n0_ n1_)))|((with_reducible refine zBx 4 109 #[.int .i64 0,.int .i64 0,.int .i64 0,.int .i64 0,.int .i64 0] ?_);intro gb618 hg w7 hbox hb;have BK618:=zM hbox;have GW618:=zM (zW hg (below_size zB0));have GE618:=zM (zW hg (below_size zB0));replace HB:=zM (below_step zB0 hb);have NB616_618:=zM ((zn BK616.1 hg:gb616≠gb618));have NB618_616:=zM ((zm BK616.1 hg:gb618≠gb616));replace BK616:=zM (zb BK616.1 hb);clear hb hbox hg;have hnb8:=NB618_616.1;have hnc8:=NB616_618.1;have hcz9:=zc_5 (w:=w7) BK618.1)|((with_reducible refine zG Try.func124 24 #[.agg #[.int .i64 (Int.tmod a0 16),.int .i64 (Int.tmod (wrap64 (Int.tdiv a0 16)) 4),.int .i64 (Int.tmod (wrap64 (Int.tdiv a0 64)) 4),.int .i64 (Int.tmod (wrap64 (Int.tdiv a0 256)) 4),.int .i64 (wrap64 (Int.tdiv a0 1024))]] ?_);(with_reducible refine (spec_InsOk.calls (Int.tmod a0 16) (Int.tmod (wrap64 (Int.tdiv a0 16)) 4) (Int.tmod (wrap64 (Int.tdiv a0 64)) 4) (Int.tmod (wrap64 (Int.tdiv a0 256)) 4) (wrap64 (Int.tdiv a0 1024)) true _ A4.1).mono ?_);rintro e w10 ⟨rfl,hb⟩;refine ⟨_,rfl,?_⟩;replace BK616:=zM (zf BK616.1 hb);replace BK618:=zM (blk_below (g:=gb618) (o:= .cells #[.int .i64 (Int.tmod a0 16),.int .i64 (Int.tmod (wrap64 (Int.tdiv a0 16)) 4),.int .i64 (Int.tmod (wrap64 (Int.tdiv a0 64)) 4),.int .i64 (Int.tmod (wrap64 (Int.tdiv a0 256)) 4),.int .i64 (wrap64 (Int.tdiv a0 1024))] 109 (0,0)) (by exact zp5 (zK BK618.1)) hb);replace HB:=zM (below_step zB0 hb);clear hb;have hcz11:=zc_5 (w:=w10) BK618.1;have hcz12:=zc_5 (w:=w10) BK616.1))
 refine bodyPost_ret (results_ct rfl _ _ gb616 109 #[.int .i64 (Int.tmod a0 16),.int .i64 (Int.tmod (wrap64 (Int.tdiv a0 16)) 4),.int .i64 (Int.tmod (wrap64 (Int.tdiv a0 64)) 4),.int .i64 (Int.tmod (wrap64 (Int.tdiv a0 256)) 4),.int .i64 (wrap64 (Int.tdiv a0 1024))] (0,0) _ rfl (by exact zp5 (zK BK616.1)) Try.underlying109 rfl (by kernel_rfl)) rfl ?_
 exact ⟨zE,zB0⟩

/-! ### spec_Target: function 107 -/
def spec_Target.f (a0_0:Int) (a0_1:Int) (a0_2:Int) (a0_3:Int) (a0_4:Int) (l1:List Int):Option (Int):=(spec_InsOk.f a0_0 a0_1 a0_2 a0_3 a0_4).bind fun t621=>(if t621=true then (if (l1.length:Int)=4 then (if a0_0=4 then (if 0≤a0_2 then (if a0_2<(l1.length:Int) then ((spec_l9Address.f (wrap64 ((rd l1 a0_2)+a0_4))).bind fun t623=>(some t623)) else (none)) else (none)) else (if a0_0=5 then (if 0≤a0_2 then (if a0_2<(l1.length:Int) then ((spec_l9Address.f (wrap64 ((rd l1 a0_2)+a0_4))).bind fun t625=>(some t625)) else (none)) else (none)) else (if a0_0=6 then (if 0≤a0_2 then (if a0_2<(l1.length:Int) then ((spec_l9Address.f (wrap64 ((rd l1 a0_2)+a0_4))).bind fun t627=>(some t627)) else (none)) else (none)) else (some (-1))))) else (some (-1))) else (some (-1)))
theorem spec_Target.calls (a0_0:Int) (a0_1:Int) (a0_2:Int) (a0_3:Int) (a0_4:Int) (A1:Option Addr) (c1:Nat) (l1:List Int) (r:Int) (w:World) (hr1:Kd.C (Kd.int .i64) w A1 l1.length l1) (hc1:l1.length≤c1) (h:spec_Target.f a0_0 a0_1 a0_2 a0_3 a0_4 l1=some r):
  Calls Try.prog 107 #[.agg #[.int .i64 a0_0,.int .i64 a0_1,.int .i64 a0_2,.int .i64 a0_3,.int .i64 a0_4],.slice A1 l1.length c1] w fun e w'=>e= .returned (.int .i64 r)∧Below w.heap.size w w':=by
 have hu109:=Try.underlying109
 have HR1:=zM hr1
 have HC1:=zM hc1
 clear hr1 hc1
 have HB:=zM (Below.refl w.heap.size w)
 unfold spec_Target.f at h
 have H:=h
 clear h
 replace H:=zO H
 obtain ⟨t621,A3,H⟩:=H
 by_cases c4:t621=true
 rotate_left
 ·replace c4:=Bool.eq_false_iff.mpr c4
  subst c4
  rw [if_neg zF] at H
  obtain rfl:=Option.some.inj H
  go_enter Try.func107,Try.ntmps107
  go_wp2_with (first|((with_reducible refine gate_dst (N:=2) rfl ?_);(try (refine gate_guard (by rfl) ?_;dsimp only));(with_reducible refine zBx 2 109 #[.int .i64 a0_0,.int .i64 a0_1,.int .i64 a0_2,.int .i64 a0_3,.int .i64 a0_4] ?_);intro gb620 hg w37 hbox hb;have BK620:=zM hbox;have GW620:=zM (zW hg (below_size zB0));have GE620:=zM (zW hg (below_size zB0));replace HB:=zM (below_step zB0 hb);clear hb hbox hg;have hcz38:=zc_5 (w:=w37) BK620.1)|(go_at_call 124;(with_reducible refine (spec_InsOk.calls a0_0 a0_1 a0_2 a0_3 a0_4 false _ A3.1).mono ?_);rintro e w39 ⟨rfl,hb⟩;replace BK620:=zM (zb BK620.1 hb);replace HB:=zM (below_step zB0 hb);clear hb))
  repeat (go_quiet (first|((with_reducible refine gate_dst (N:=2) rfl ?_);(try (refine gate_guard (by rfl) ?_;dsimp only));(with_reducible refine zBx 2 109 #[.int .i64 a0_0,.int .i64 a0_1,.int .i64 a0_2,.int .i64 a0_3,.int .i64 a0_4] ?_);intro gb620 hg w37 hbox hb;have BK620:=zM hbox;have GW620:=zM (zW hg (below_size zB0));have GE620:=zM (zW hg (below_size zB0));replace HB:=zM (below_step zB0 hb);clear hb hbox hg;have hcz38:=zc_5 (w:=w37) BK620.1)|(go_at_call 124;(with_reducible refine (spec_InsOk.calls a0_0 a0_1 a0_2 a0_3 a0_4 false _ A3.1).mono ?_);rintro e w39 ⟨rfl,hb⟩;replace BK620:=zM (zb BK620.1 hb);replace HB:=zM (below_step zB0 hb);clear hb));try go_wp2_with (first|((with_reducible refine gate_dst (N:=2) rfl ?_);(try (refine gate_guard (by rfl) ?_;dsimp only));(with_reducible refine zBx 2 109 #[.int .i64 a0_0,.int .i64 a0_1,.int .i64 a0_2,.int .i64 a0_3,.int .i64 a0_4] ?_);intro gb620 hg w37 hbox hb;have BK620:=zM hbox;have GW620:=zM (zW hg (below_size zB0));have GE620:=zM (zW hg (below_size zB0));replace HB:=zM (below_step zB0 hb);clear hb hbox hg;have hcz38:=zc_5 (w:=w37) BK620.1)|(go_at_call 124;(with_reducible refine (spec_InsOk.calls a0_0 a0_1 a0_2 a0_3 a0_4 false _ A3.1).mono ?_);rintro e w39 ⟨rfl,hb⟩;replace BK620:=zM (zb BK620.1 hb);replace HB:=zM (below_step zB0 hb);clear hb)))
  go_ret
  exact ⟨zE,zB0⟩
 subst c4
 rw [if_pos rfl] at H
 by_cases c5:(l1.length:Int)=4
 rotate_left
 ·rw [if_neg c5] at H
  have c5b0:((l1.length:Int) == 4)=false:=beq_eq_false_iff_ne.mpr c5
  have c5b1:((l1.length:Int) != 4)=true:=bne_iff_ne.mpr c5
  obtain rfl:=Option.some.inj H
  go_enter Try.func107,Try.ntmps107
  go_wp2_with (first|((with_reducible refine gate_dst (N:=2) rfl ?_);(try (refine gate_guard (by rfl) ?_;dsimp only));(with_reducible refine zBx 2 109 #[.int .i64 a0_0,.int .i64 a0_1,.int .i64 a0_2,.int .i64 a0_3,.int .i64 a0_4] ?_);intro gb620 hg w34 hbox hb;have BK620:=zM hbox;have GW620:=zM (zW hg (below_size zB0));have GE620:=zM (zW hg (below_size zB0));replace HB:=zM (below_step zB0 hb);clear hb hbox hg;have hcz35:=zc_5 (w:=w34) BK620.1)|(go_at_call 124;(with_reducible refine (spec_InsOk.calls a0_0 a0_1 a0_2 a0_3 a0_4 true _ A3.1).mono ?_);rintro e w36 ⟨rfl,hb⟩;replace BK620:=zM (zb BK620.1 hb);replace HB:=zM (below_step zB0 hb);clear hb))
  repeat (go_quiet (first|((with_reducible refine gate_dst (N:=2) rfl ?_);(try (refine gate_guard (by rfl) ?_;dsimp only));(with_reducible refine zBx 2 109 #[.int .i64 a0_0,.int .i64 a0_1,.int .i64 a0_2,.int .i64 a0_3,.int .i64 a0_4] ?_);intro gb620 hg w34 hbox hb;have BK620:=zM hbox;have GW620:=zM (zW hg (below_size zB0));have GE620:=zM (zW hg (below_size zB0));replace HB:=zM (below_step zB0 hb);clear hb hbox hg;have hcz35:=zc_5 (w:=w34) BK620.1)|(go_at_call 124;(with_reducible refine (spec_InsOk.calls a0_0 a0_1 a0_2 a0_3 a0_4 true _ A3.1).mono ?_);rintro e w36 ⟨rfl,hb⟩;replace BK620:=zM (zb BK620.1 hb);replace HB:=zM (below_step zB0 hb);clear hb));try go_wp2_with (first|((with_reducible refine gate_dst (N:=2) rfl ?_);(try (refine gate_guard (by rfl) ?_;dsimp only));(with_reducible refine zBx 2 109 #[.int .i64 a0_0,.int .i64 a0_1,.int .i64 a0_2,.int .i64 a0_3,.int .i64 a0_4] ?_);intro gb620 hg w34 hbox hb;have BK620:=zM hbox;have GW620:=zM (zW hg (below_size zB0));have GE620:=zM (zW hg (below_size zB0));replace HB:=zM (below_step zB0 hb);clear hb hbox hg;have hcz35:=zc_5 (w:=w34) BK620.1)|(go_at_call 124;(with_reducible refine (spec_InsOk.calls a0_0 a0_1 a0_2 a0_3 a0_4 true _ A3.1).mono ?_);rintro e w36 ⟨rfl,hb⟩;replace BK620:=zM (zb BK620.1 hb);replace HB:=zM (below_step zB0 hb);clear hb)))
  go_ret
  exact ⟨zE,zB0⟩
 rw [if_pos c5] at H
 have c5b0:((l1.length:Int) == 4)=true:=beq_iff_eq.mpr c5
 have c5b1:((l1.length:Int) != 4)=false:=bne_eq_false_iff_eq.mpr c5
 clear c5
 by_cases c6:a0_0=4
 ·rw [if_pos c6] at H
  have c6b0:(a0_0 == 4)=true:=beq_iff_eq.mpr c6
  have c6b1:(a0_0 != 4)=false:=bne_eq_false_iff_eq.mpr c6
  clear c6
  replace H:=zIt H
  obtain ⟨c7b0,H⟩:=H
  replace H:=zIt H
  obtain ⟨c8b0,H⟩:=H
  replace H:=zO H
  obtain ⟨t623,A9,H⟩:=H
  obtain rfl:=Option.some.inj H
  go_enter Try.func107,Try.ntmps107
  go_wp2_with (first|((with_reducible refine gate_dst (N:=2) rfl ?_);(try (refine gate_guard (by rfl) ?_;dsimp only));(with_reducible refine zBx 2 109 #[.int .i64 a0_0,.int .i64 a0_1,.int .i64 a0_2,.int .i64 a0_3,.int .i64 a0_4] ?_);intro gb620 hg w10 hbox hb;have BK620:=zM hbox;have GW620:=zM (zW hg (below_size zB0));have GE620:=zM (zW hg (below_size zB0));replace HB:=zM (below_step zB0 hb);clear hb hbox hg;have hcz11:=zc_5 (w:=w10) BK620.1)|(go_at_call 124;(with_reducible refine (spec_InsOk.calls a0_0 a0_1 a0_2 a0_3 a0_4 true _ A3.1).mono ?_);rintro e w12 ⟨rfl,hb⟩;replace BK620:=zM (zb BK620.1 hb);replace HB:=zM (below_step zB0 hb);clear hb;have hcz13:=zc_5 (w:=w12) BK620.1;obtain ⟨p622,q622,ad622,e622,hx622_0⟩:=zRd (Kd.at_int HR1.1 a0_2);cases e622;replace hx622_0:=zHx HB.1 hx622_0)|(go_at_call 117;(with_reducible refine (spec_l9Address.calls (wrap64 ((rd l1 a0_2)+a0_4)) t623 _ A9.1).mono ?_);rintro e w' ⟨rfl,⟨nd,rfl⟩⟩;(try first|exact ⟨rfl,_,World.drewN_drewN _ _ _⟩|exact ⟨rfl,_,Eq.trans (World.drewN_drewN _ _ _) (congrArg (World.drewN _) (Nat.add_assoc _ _ _))⟩)))
  repeat (go_quiet (first|((with_reducible refine gate_dst (N:=2) rfl ?_);(try (refine gate_guard (by rfl) ?_;dsimp only));(with_reducible refine zBx 2 109 #[.int .i64 a0_0,.int .i64 a0_1,.int .i64 a0_2,.int .i64 a0_3,.int .i64 a0_4] ?_);intro gb620 hg w10 hbox hb;have BK620:=zM hbox;have GW620:=zM (zW hg (below_size zB0));have GE620:=zM (zW hg (below_size zB0));replace HB:=zM (below_step zB0 hb);clear hb hbox hg;have hcz11:=zc_5 (w:=w10) BK620.1)|(go_at_call 124;(with_reducible refine (spec_InsOk.calls a0_0 a0_1 a0_2 a0_3 a0_4 true _ A3.1).mono ?_);rintro e w12 ⟨rfl,hb⟩;replace BK620:=zM (zb BK620.1 hb);replace HB:=zM (below_step zB0 hb);clear hb;have hcz13:=zc_5 (w:=w12) BK620.1;obtain ⟨p622,q622,ad622,e622,hx622_0⟩:=zRd (Kd.at_int HR1.1 a0_2);cases e622;replace hx622_0:=zHx HB.1 hx622_0)|(go_at_call 117;(with_reducible refine (spec_l9Address.calls (wrap64 ((rd l1 a0_2)+a0_4)) t623 _ A9.1).mono ?_);rintro e w' ⟨rfl,⟨nd,rfl⟩⟩;(try first|exact ⟨rfl,_,World.drewN_drewN _ _ _⟩|exact ⟨rfl,_,Eq.trans (World.drewN_drewN _ _ _) (congrArg (World.drewN _) (Nat.add_assoc _ _ _))⟩)));try go_wp2_with (first|((with_reducible refine gate_dst (N:=2) rfl ?_);(try (refine gate_guard (by rfl) ?_;dsimp only));(with_reducible refine zBx 2 109 #[.int .i64 a0_0,.int .i64 a0_1,.int .i64 a0_2,.int .i64 a0_3,.int .i64 a0_4] ?_);intro gb620 hg w10 hbox hb;have BK620:=zM hbox;have GW620:=zM (zW hg (below_size zB0));have GE620:=zM (zW hg (below_size zB0));replace HB:=zM (below_step zB0 hb);clear hb hbox hg;have hcz11:=zc_5 (w:=w10) BK620.1)|(go_at_call 124;(with_reducible refine (spec_InsOk.calls a0_0 a0_1 a0_2 a0_3 a0_4 true _ A3.1).mono ?_);rintro e w12 ⟨rfl,hb⟩;replace BK620:=zM (zb BK620.1 hb);replace HB:=zM (below_step zB0 hb);clear hb;have hcz13:=zc_5 (w:=w12) BK620.1;obtain ⟨p622,q622,ad622,e622,hx622_0⟩:=zRd (Kd.at_int HR1.1 a0_2);cases e622;replace hx622_0:=zHx HB.1 hx622_0)|(go_at_call 117;(with_reducible refine (spec_l9Address.calls (wrap64 ((rd l1 a0_2)+a0_4)) t623 _ A9.1).mono ?_);rintro e w' ⟨rfl,⟨nd,rfl⟩⟩;(try first|exact ⟨rfl,_,World.drewN_drewN _ _ _⟩|exact ⟨rfl,_,Eq.trans (World.drewN_drewN _ _ _) (congrArg (World.drewN _) (Nat.add_assoc _ _ _))⟩))))
  go_ret
  exact ⟨zE,zB0⟩
 rw [if_neg c6] at H
 have c6b0:(a0_0 == 4)=false:=beq_eq_false_iff_ne.mpr c6
 have c6b1:(a0_0 != 4)=true:=bne_iff_ne.mpr c6
 by_cases c14:a0_0=5
 ·rw [if_pos c14] at H
  have c14b0:(a0_0 == 5)=true:=beq_iff_eq.mpr c14
  have c14b1:(a0_0 != 5)=false:=bne_eq_false_iff_eq.mpr c14
  clear c14
  replace H:=zIt H
  obtain ⟨c15b0,H⟩:=H
  replace H:=zIt H
  obtain ⟨c16b0,H⟩:=H
  replace H:=zO H
  obtain ⟨t625,A17,H⟩:=H
  obtain rfl:=Option.some.inj H
  go_enter Try.func107,Try.ntmps107
  go_wp2_with (first|((with_reducible refine gate_dst (N:=2) rfl ?_);(try (refine gate_guard (by rfl) ?_;dsimp only));(with_reducible refine zBx 2 109 #[.int .i64 a0_0,.int .i64 a0_1,.int .i64 a0_2,.int .i64 a0_3,.int .i64 a0_4] ?_);intro gb620 hg w18 hbox hb;have BK620:=zM hbox;have GW620:=zM (zW hg (below_size zB0));have GE620:=zM (zW hg (below_size zB0));replace HB:=zM (below_step zB0 hb);clear hb hbox hg;have hcz19:=zc_5 (w:=w18) BK620.1)|(go_at_call 124;(with_reducible refine (spec_InsOk.calls a0_0 a0_1 a0_2 a0_3 a0_4 true _ A3.1).mono ?_);rintro e w20 ⟨rfl,hb⟩;replace BK620:=zM (zb BK620.1 hb);replace HB:=zM (below_step zB0 hb);clear hb;have hcz21:=zc_5 (w:=w20) BK620.1;obtain ⟨p624,q624,ad624,e624,hx624_0⟩:=zRd (Kd.at_int HR1.1 a0_2);cases e624;replace hx624_0:=zHx HB.1 hx624_0)|(go_at_call 117;(with_reducible refine (spec_l9Address.calls (wrap64 ((rd l1 a0_2)+a0_4)) t625 _ A17.1).mono ?_);rintro e w' ⟨rfl,⟨nd,rfl⟩⟩;(try first|exact ⟨rfl,_,World.drewN_drewN _ _ _⟩|exact ⟨rfl,_,Eq.trans (World.drewN_drewN _ _ _) (congrArg (World.drewN _) (Nat.add_assoc _ _ _))⟩)))
  repeat (go_quiet (first|((with_reducible refine gate_dst (N:=2) rfl ?_);(try (refine gate_guard (by rfl) ?_;dsimp only));(with_reducible refine zBx 2 109 #[.int .i64 a0_0,.int .i64 a0_1,.int .i64 a0_2,.int .i64 a0_3,.int .i64 a0_4] ?_);intro gb620 hg w18 hbox hb;have BK620:=zM hbox;have GW620:=zM (zW hg (below_size zB0));have GE620:=zM (zW hg (below_size zB0));replace HB:=zM (below_step zB0 hb);clear hb hbox hg;have hcz19:=zc_5 (w:=w18) BK620.1)|(go_at_call 124;(with_reducible refine (spec_InsOk.calls a0_0 a0_1 a0_2 a0_3 a0_4 true _ A3.1).mono ?_);rintro e w20 ⟨rfl,hb⟩;replace BK620:=zM (zb BK620.1 hb);replace HB:=zM (below_step zB0 hb);clear hb;have hcz21:=zc_5 (w:=w20) BK620.1;obtain ⟨p624,q624,ad624,e624,hx624_0⟩:=zRd (Kd.at_int HR1.1 a0_2);cases e624;replace hx624_0:=zHx HB.1 hx624_0)|(go_at_call 117;(with_reducible refine (spec_l9Address.calls (wrap64 ((rd l1 a0_2)+a0_4)) t625 _ A17.1).mono ?_);rintro e w' ⟨rfl,⟨nd,rfl⟩⟩;(try first|exact ⟨rfl,_,World.drewN_drewN _ _ _⟩|exact ⟨rfl,_,Eq.trans (World.drewN_drewN _ _ _) (congrArg (World.drewN _) (Nat.add_assoc _ _ _))⟩)));try go_wp2_with (first|((with_reducible refine gate_dst (N:=2) rfl ?_);(try (refine gate_guard (by rfl) ?_;dsimp only));(with_reducible refine zBx 2 109 #[.int .i64 a0_0,.int .i64 a0_1,.int .i64 a0_2,.int .i64 a0_3,.int .i64 a0_4] ?_);intro gb620 hg w18 hbox hb;have BK620:=zM hbox;have GW620:=zM (zW hg (below_size zB0));have GE620:=zM (zW hg (below_size zB0));replace HB:=zM (below_step zB0 hb);clear hb hbox hg;have hcz19:=zc_5 (w:=w18) BK620.1)|(go_at_call 124;(with_reducible refine (spec_InsOk.calls a0_0 a0_1 a0_2 a0_3 a0_4 true _ A3.1).mono ?_);rintro e w20 ⟨rfl,hb⟩;replace BK620:=zM (zb BK620.1 hb);replace HB:=zM (below_step zB0 hb);clear hb;have hcz21:=zc_5 (w:=w20) BK620.1;obtain ⟨p624,q624,ad624,e624,hx624_0⟩:=zRd (Kd.at_int HR1.1 a0_2);cases e624;replace hx624_0:=zHx HB.1 hx624_0)|(go_at_call 117;(with_reducible refine (spec_l9Address.calls (wrap64 ((rd l1 a0_2)+a0_4)) t625 _ A17.1).mono ?_);rintro e w' ⟨rfl,⟨nd,rfl⟩⟩;(try first|exact ⟨rfl,_,World.drewN_drewN _ _ _⟩|exact ⟨rfl,_,Eq.trans (World.drewN_drewN _ _ _) (congrArg (World.drewN _) (Nat.add_assoc _ _ _))⟩))))
  go_ret
  exact ⟨zE,zB0⟩
 rw [if_neg c14] at H
 have c14b0:(a0_0 == 5)=false:=beq_eq_false_iff_ne.mpr c14
 have c14b1:(a0_0 != 5)=true:=bne_iff_ne.mpr c14
 by_cases c22:a0_0=6
 rotate_left
 ·rw [if_neg c22] at H
  have c22b0:(a0_0 == 6)=false:=beq_eq_false_iff_ne.mpr c22
  have c22b1:(a0_0 != 6)=true:=bne_iff_ne.mpr c22
  obtain rfl:=Option.some.inj H
  go_enter Try.func107,Try.ntmps107
  go_wp2_with (first|((with_reducible refine gate_dst (N:=2) rfl ?_);(try (refine gate_guard (by rfl) ?_;dsimp only));(with_reducible refine zBx 2 109 #[.int .i64 a0_0,.int .i64 a0_1,.int .i64 a0_2,.int .i64 a0_3,.int .i64 a0_4] ?_);intro gb620 hg w30 hbox hb;have BK620:=zM hbox;have GW620:=zM (zW hg (below_size zB0));have GE620:=zM (zW hg (below_size zB0));replace HB:=zM (below_step zB0 hb);clear hb hbox hg;have hcz31:=zc_5 (w:=w30) BK620.1)|(go_at_call 124;(with_reducible refine (spec_InsOk.calls a0_0 a0_1 a0_2 a0_3 a0_4 true _ A3.1).mono ?_);rintro e w32 ⟨rfl,hb⟩;replace BK620:=zM (zb BK620.1 hb);replace HB:=zM (below_step zB0 hb);clear hb;have hcz33:=zc_5 (w:=w32) BK620.1))
  repeat (go_quiet (first|((with_reducible refine gate_dst (N:=2) rfl ?_);(try (refine gate_guard (by rfl) ?_;dsimp only));(with_reducible refine zBx 2 109 #[.int .i64 a0_0,.int .i64 a0_1,.int .i64 a0_2,.int .i64 a0_3,.int .i64 a0_4] ?_);intro gb620 hg w30 hbox hb;have BK620:=zM hbox;have GW620:=zM (zW hg (below_size zB0));have GE620:=zM (zW hg (below_size zB0));replace HB:=zM (below_step zB0 hb);clear hb hbox hg;have hcz31:=zc_5 (w:=w30) BK620.1)|(go_at_call 124;(with_reducible refine (spec_InsOk.calls a0_0 a0_1 a0_2 a0_3 a0_4 true _ A3.1).mono ?_);rintro e w32 ⟨rfl,hb⟩;replace BK620:=zM (zb BK620.1 hb);replace HB:=zM (below_step zB0 hb);clear hb;have hcz33:=zc_5 (w:=w32) BK620.1));try go_wp2_with (first|((with_reducible refine gate_dst (N:=2) rfl ?_);(try (refine gate_guard (by rfl) ?_;dsimp only));(with_reducible refine zBx 2 109 #[.int .i64 a0_0,.int .i64 a0_1,.int .i64 a0_2,.int .i64 a0_3,.int .i64 a0_4] ?_);intro gb620 hg w30 hbox hb;have BK620:=zM hbox;have GW620:=zM (zW hg (below_size zB0));have GE620:=zM (zW hg (below_size zB0));replace HB:=zM (below_step zB0 hb);clear hb hbox hg;have hcz31:=zc_5 (w:=w30) BK620.1)|(go_at_call 124;(with_reducible refine (spec_InsOk.calls a0_0 a0_1 a0_2 a0_3 a0_4 true _ A3.1).mono ?_);rintro e w32 ⟨rfl,hb⟩;replace BK620:=zM (zb BK620.1 hb);replace HB:=zM (below_step zB0 hb);clear hb;have hcz33:=zc_5 (w:=w32) BK620.1)))
  go_ret
  exact ⟨zE,zB0⟩
 rw [if_pos c22] at H
 have c22b0:(a0_0 == 6)=true:=beq_iff_eq.mpr c22
 have c22b1:(a0_0 != 6)=false:=bne_eq_false_iff_eq.mpr c22
 clear c22
 replace H:=zIt H
 obtain ⟨c23b0,H⟩:=H
 replace H:=zIt H
 obtain ⟨c24b0,H⟩:=H
 replace H:=zO H
 obtain ⟨t627,A25,H⟩:=H
 obtain rfl:=Option.some.inj H
 go_enter Try.func107,Try.ntmps107
 go_wp2_with (first|((with_reducible refine gate_dst (N:=2) rfl ?_);(try (refine gate_guard (by rfl) ?_;dsimp only));(with_reducible refine zBx 2 109 #[.int .i64 a0_0,.int .i64 a0_1,.int .i64 a0_2,.int .i64 a0_3,.int .i64 a0_4] ?_);intro gb620 hg w26 hbox hb;have BK620:=zM hbox;have GW620:=zM (zW hg (below_size zB0));have GE620:=zM (zW hg (below_size zB0));replace HB:=zM (below_step zB0 hb);clear hb hbox hg;have hcz27:=zc_5 (w:=w26) BK620.1)|(go_at_call 124;(with_reducible refine (spec_InsOk.calls a0_0 a0_1 a0_2 a0_3 a0_4 true _ A3.1).mono ?_);rintro e w28 ⟨rfl,hb⟩;replace BK620:=zM (zb BK620.1 hb);replace HB:=zM (below_step zB0 hb);clear hb;have hcz29:=zc_5 (w:=w28) BK620.1;obtain ⟨p626,q626,ad626,e626,hx626_0⟩:=zRd (Kd.at_int HR1.1 a0_2);cases e626;replace hx626_0:=zHx HB.1 hx626_0)|(go_at_call 117;(with_reducible refine (spec_l9Address.calls (wrap64 ((rd l1 a0_2)+a0_4)) t627 _ A25.1).mono ?_);rintro e w' ⟨rfl,⟨nd,rfl⟩⟩;(try first|exact ⟨rfl,_,World.drewN_drewN _ _ _⟩|exact ⟨rfl,_,Eq.trans (World.drewN_drewN _ _ _) (congrArg (World.drewN _) (Nat.add_assoc _ _ _))⟩)))
 repeat (go_quiet (first|((with_reducible refine gate_dst (N:=2) rfl ?_);(try (refine gate_guard (by rfl) ?_;dsimp only));(with_reducible refine zBx 2 109 #[.int .i64 a0_0,.int .i64 a0_1,.int .i64 a0_2,.int .i64 a0_3,.int .i64 a0_4] ?_);intro gb620 hg w26 hbox hb;have BK620:=zM hbox;have GW620:=zM (zW hg (below_size zB0));have GE620:=zM (zW hg (below_size zB0));replace HB:=zM (below_step zB0 hb);clear hb hbox hg;have hcz27:=zc_5 (w:=w26) BK620.1)|(go_at_call 124;(with_reducible refine (spec_InsOk.calls a0_0 a0_1 a0_2 a0_3 a0_4 true _ A3.1).mono ?_);rintro e w28 ⟨rfl,hb⟩;replace BK620:=zM (zb BK620.1 hb);replace HB:=zM (below_step zB0 hb);clear hb;have hcz29:=zc_5 (w:=w28) BK620.1;obtain ⟨p626,q626,ad626,e626,hx626_0⟩:=zRd (Kd.at_int HR1.1 a0_2);cases e626;replace hx626_0:=zHx HB.1 hx626_0)|(go_at_call 117;(with_reducible refine (spec_l9Address.calls (wrap64 ((rd l1 a0_2)+a0_4)) t627 _ A25.1).mono ?_);rintro e w' ⟨rfl,⟨nd,rfl⟩⟩;(try first|exact ⟨rfl,_,World.drewN_drewN _ _ _⟩|exact ⟨rfl,_,Eq.trans (World.drewN_drewN _ _ _) (congrArg (World.drewN _) (Nat.add_assoc _ _ _))⟩)));try go_wp2_with (first|((with_reducible refine gate_dst (N:=2) rfl ?_);(try (refine gate_guard (by rfl) ?_;dsimp only));(with_reducible refine zBx 2 109 #[.int .i64 a0_0,.int .i64 a0_1,.int .i64 a0_2,.int .i64 a0_3,.int .i64 a0_4] ?_);intro gb620 hg w26 hbox hb;have BK620:=zM hbox;have GW620:=zM (zW hg (below_size zB0));have GE620:=zM (zW hg (below_size zB0));replace HB:=zM (below_step zB0 hb);clear hb hbox hg;have hcz27:=zc_5 (w:=w26) BK620.1)|(go_at_call 124;(with_reducible refine (spec_InsOk.calls a0_0 a0_1 a0_2 a0_3 a0_4 true _ A3.1).mono ?_);rintro e w28 ⟨rfl,hb⟩;replace BK620:=zM (zb BK620.1 hb);replace HB:=zM (below_step zB0 hb);clear hb;have hcz29:=zc_5 (w:=w28) BK620.1;obtain ⟨p626,q626,ad626,e626,hx626_0⟩:=zRd (Kd.at_int HR1.1 a0_2);cases e626;replace hx626_0:=zHx HB.1 hx626_0)|(go_at_call 117;(with_reducible refine (spec_l9Address.calls (wrap64 ((rd l1 a0_2)+a0_4)) t627 _ A25.1).mono ?_);rintro e w' ⟨rfl,⟨nd,rfl⟩⟩;(try first|exact ⟨rfl,_,World.drewN_drewN _ _ _⟩|exact ⟨rfl,_,Eq.trans (World.drewN_drewN _ _ _) (congrArg (World.drewN _) (Nat.add_assoc _ _ _))⟩))))
 go_ret
 exact ⟨zE,zB0⟩

/-! ### spec_l9Word: function 125 -/
def spec_l9Word.f (a0:Int):Option (Int):=some (Go.bits .and .i64 a0 65535)
theorem spec_l9Word.calls (a0:Int) (r:Int) (w:World) (h:spec_l9Word.f a0=some r):
  Calls Try.prog 125 #[.int .i64 a0] w fun e w'=>e= .returned (.int .i64 r)∧Drawn0 w w':=by
 unfold spec_l9Word.f at h
 have H:=h
 clear h
 obtain rfl:=Option.some.inj H
 go_enter Try.func125,Try.ntmps125
 go_wp2
 go_ret
 exact ⟨zJJ,zDD⟩

end Go.Proofs.Ytpcgecacaemalaa.PFnStops
