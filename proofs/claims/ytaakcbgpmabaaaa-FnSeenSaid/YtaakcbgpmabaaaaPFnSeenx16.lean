-- made by wip/tools/myprint.py out of the seat's translation
import Derived.Test.YtaakcbgpmabaaaaPFnSeenx0
import Derived.Test.YtaakcbgpmabaaaaPFnSeenx2
import Derived.Test.YtaakcbgpmabaaaaPFnSeenx5
import Derived.Test.YtaakcbgpmabaaaaPFnSeenx11
import Derived.Test.YtaakcbgpmabaaaaPFnSeenx14
import Derived.Test.YtaakcbgpmabaaaaPFnSeenx15
namespace Go.Proofs.Ytaakcbgpmabaaaa.PFnSeen
open Go.RowKit Go.Proofs.YtaakcbgpmabaaaaW.PrintWords Go.Proofs.YtaakcbgpmabaaaaW.PrintLast Go.Proofs.YtaakcbgpmabaaaaW.PrintMore
attribute [local go_sem] max2_int min2_int max_two min_two max_three min_three max_four min_four -- for this text's walks alone
set_option linter.unusedVariables false
set_option linter.unusedSimpArgs false
set_option maxHeartbeats 8000000
set_option maxRecDepth 100000

/-! ### spec_Trace: function 42 -/
mutual
def spec_Trace.l0:Nat→List Int→List (S74)→List Int→List (S72)→Int→Option ((List (S74)))
 |0,_,_,_,_,_=>none
 |k+1,x2,x7,x8,x9,x10=>if x10<(x2.length:Int) then (spec_Trace.j1 k x2 x7 x8 x9 x10 (decide ((x2.length:Int)≤2000))) else (spec_Trace.j1 k x2 x7 x8 x9 x10 false)
def spec_Trace.j1:Nat→List Int→List (S74)→List Int→List (S72)→Int→Bool→Option ((List (S74)))
 |0,_,_,_,_,_,_=>none
 |k+1,x2,x7,x8,x9,x10,x31=>if x31=true then (if 0≤x10 then (if x10<(x2.length:Int) then ((spec_l1In.f (rd x2 x10) 0 (wrap64 ((x9.length:Int)-1))).bind fun t632=>(if t632=true then (if 0≤(rd x2 x10) then (if (rd x2 x10)<(x9.length:Int) then ((spec_EventOf.f k x8 ((rd_T72 x9 (rd x2 x10)).f0) ((rd_T72 x9 (rd x2 x10)).f1) ((rd_T72 x9 (rd x2 x10)).f2) (rd x2 x10)).bind fun bt634=>(if bt634.2.2.2.2.2=true then (if x7.length<3518437208883 then ((spec_FlatStep.f k x8 ((rd_T72 x9 (rd x2 x10)).f0) ((rd_T72 x9 (rd x2 x10)).f1) ((rd_T72 x9 (rd x2 x10)).f2)).bind fun bt645=>(spec_Trace.l0 k x2 (x7++[(⟨bt634.1,bt634.2.1,bt634.2.2.1,bt634.2.2.2.1,bt634.2.2.2.2.1⟩:S74)]) bt645.1 (x9.set ((rd x2 x10):Int).toNat (⟨bt645.2.1,bt645.2.2.1,bt645.2.2.2⟩:S72)) (wrap64 (x10+1)))) else (none)) else ((spec_FlatStep.f k x8 ((rd_T72 x9 (rd x2 x10)).f0) ((rd_T72 x9 (rd x2 x10)).f1) ((rd_T72 x9 (rd x2 x10)).f2)).bind fun bt656=>(spec_Trace.l0 k x2 x7 bt656.1 (x9.set ((rd x2 x10):Int).toNat (⟨bt656.2.1,bt656.2.2.1,bt656.2.2.2⟩:S72)) (wrap64 (x10+1)))))) else (none)) else (none)) else (spec_Trace.l0 k x2 x7 x8 x9 (wrap64 (x10+1))))) else (none)) else (none)) else (some x7)
end
def spec_Trace.f (k:Nat) (l0:List Int) (l1:List (S72)) (l2:List Int):Option ((List (S74))):=(some (([]:List Int):List Int)).bind fun y619=>(if y619.length+l0.length<17592186044416 then ((some (([]:List (S72)):List (S72))).bind fun y625=>(if y625.length+l1.length<3518437208883 then (spec_Trace.l0 k l2 (([]:List (S74))) (y619++l0) (y625++l1) 0) else (none))) else (none))
theorem spec_Trace.mono_l: ∀k,(∀y0 y1 y2 y3 y4,LeO (spec_Trace.l0 k y0 y1 y2 y3 y4) (spec_Trace.l0 (k+1) y0 y1 y2 y3 y4))∧(∀y0 y1 y2 y3 y4 y5,LeO (spec_Trace.j1 k y0 y1 y2 y3 y4 y5) (spec_Trace.j1 (k+1) y0 y1 y2 y3 y4 y5))
 |0=>⟨fun _ _ _ _ _ r h=>by simp [spec_Trace.l0] at h,fun _ _ _ _ _ _ r h=>by simp [spec_Trace.j1] at h⟩
 |k+1=>by
  obtain ⟨ih0,ih1⟩:=spec_Trace.mono_l k
  refine ⟨?_,?_⟩
  ·intros
   unfold spec_Trace.l0
   have mo0:=@spec_EventOf.mono
   have mo1:=@spec_FlatStep.mono
   exact zL
  ·intros
   unfold spec_Trace.j1
   have mo0:=@spec_EventOf.mono
   have mo1:=@spec_FlatStep.mono
   exact zL
theorem spec_Trace.mono: ∀a0 a1 a2 k,LeO (spec_Trace.f k a0 a1 a2) (spec_Trace.f (k+1) a0 a1 a2):=by
 intro a0 a1 a2 k
 obtain ⟨ih0,ih1⟩:=spec_Trace.mono_l k
 unfold spec_Trace.f
 have mo0:=@spec_EventOf.mono
 have mo1:=@spec_FlatStep.mono
 exact zL
theorem spec_Trace.calls (k:Nat) (A0:Option Addr) (c0:Nat) (l0:List Int) (P1_:Nat→Prop) (A1:Option Addr) (c1:Nat) (l1:List (S72)) (A2:Option Addr) (c2:Nat) (l2:List Int) (r:List (S74)) (w:World) (hr0:Kd.C (Kd.int .i64) w A0 l0.length l0) (hc0:l0.length≤c0) (hs1:Kd.V k72 72 w w.heap.size (fun k_=>P1_ k_) (.slice A1 l1.length c1) l1) (hr2:Kd.C (Kd.int .i64) w A2 l2.length l2) (hc2:l2.length≤c2) (h:spec_Trace.f k l0 l1 l2=some r):
  Calls Try.prog 42 #[.slice A0 l0.length c0,.slice A1 l1.length c1,.slice A2 l2.length c2] w fun e w'=>∃v0_:Value,e= .returned (v0_)∧Kd.R k74 74 w' w.heap.size (fun k_=>(w.heap.size≤k_)) v0_ r∧Below w.heap.size w w':=by
 have hu72:=Try.underlying72
 have hu74:=Try.underlying74
 have HR0:=zM hr0
 have HC0:=zM hc0
 clear hr0 hc0
 have HO1:=zM (show Kd.V k72 72 w w.heap.size (fun k_=>(P1_ k_∨w.heap.size≤k_)) (.slice A1 l1.length c1) l1 from Kd.V_mono hs1 (fun k_ hk=> .inl hk))
 have HR2:=zM hr2
 have HC2:=zM hc2
 clear hr2 hc2
 have HB:=zM (Below.refl w.heap.size w)
 unfold spec_Trace.f at h
 have H:=h
 clear h
 generalize hy616:((([]:List (S74))):List (S74))=y616 at H
 have Ny616:=zM hy616.symm
 clear hy616
 replace H:=zY H
 obtain ⟨y619,Ny619,H⟩:=H
 replace H:=zIn H
 obtain ⟨LMc4,H⟩:=H
 generalize hy622:((y619++l0):List Int)=y622 at H
 have Ny622:=zM hy622.symm
 clear hy622
 replace H:=zY H
 obtain ⟨y625,Ny625,H⟩:=H
 replace H:=zIn H
 obtain ⟨LMc5,H⟩:=H
 generalize hy628:((y625++l1):List (S72))=y628 at H
 have Ny628:=zM hy628.symm
 clear hy628
 have H':=zM H
 clear H
 go_enter Try.func42,Try.ntmps42
 go_wp2_with (first|((with_reducible refine gate_dst (N:=16) rfl ?_);(try (refine gate_guard (by rfl) ?_;dsimp only));refine Kd.R_lit k74 _ 74 ?hg (N:=16) ?hd (xs:=([]:List (S74))) (inner:=[]) (ok:=fun _=>True) (okp:=fun _=>True) ?hr ?hp (fun _ hk=>hk) trivial (Below.refl _ _) (Nat.le_refl _) (by simp) ?_;(case hd=>rfl);(case hg=>rfl);(case hr=>exact zHH);(case hp=>exact (Reps.none _ _));intro v617 w6 ho7 hb hg_ hnew_;clear hg_ hnew_;(first|rw [←Ny616.1] at ho7|(simp only [Int.reduceToNat] at ho7;rw [←Ny616.1] at ho7));replace HO1:=zM (Kd.V_elder' (by refine zrV ?_;exact HO1.1) (Kd.R_base ho7) hb);have HO618:=zM (Kd.R_lower (Kd.R_newM (M:=fun k_=>(w.heap.size≤k_)) ho7 (below_size zB3) (fun k_ h_=>h_)) (below_size zB3));replace HB:=zM (below_step zB3 hb);clear hb ho7)|((with_reducible refine gate_dst (N:=17) rfl ?_);(try (refine gate_guard (by rfl) ?_;dsimp only));refine Kd.R_lit (Kd.int .i64) _ 3 ?hg (N:=17) ?hd (xs:=([]:List Int)) (inner:=[]) (ok:=fun _=>True) (okp:=fun _=>True) ?hr ?hp (fun _ hk=>hk) trivial (Below.refl _ _) (Nat.le_refl _) (by simp) ?_;(case hd=>rfl);(case hg=>rfl);(case hr=>exact zHH);(case hp=>exact (Reps.none _ _));intro v620 w8 ho9 hb hg_ hnew_;clear hg_ hnew_;(first|rw [←Ny619.1] at ho9|(simp only [Int.reduceToNat] at ho9;rw [←Ny619.1] at ho9));replace HO1:=zM (Kd.V_elder' (by refine zrV ?_;exact HO1.1) (Kd.R_base ho9) hb);replace HO618:=zM (Kd.R_below (zR HO618.1) hb);have HO621:=zM (Kd.R_lower (Kd.R_newM (M:=fun k_=>(w.heap.size≤k_)) ho9 (below_size zB3) (fun k_ h_=>h_)) (below_size zB3));replace HB:=zM (below_step zB3 hb);clear hb ho9)|((with_reducible refine gate_builtin (b:= .append) (xs:=#[.tmp 17,.tmp 18]) rfl ?_);(try (refine gate_guard (by rfl) ?_;dsimp only));at_builtin;refine Kd.R_append_rows (Kd.int .i64) (w0:=w) w.heap.size rfl (.tmp 17) (.tmp 18) 24 3 (.int .i64 0) 8 rfl Try.underlying24 info3 rfl (by decide) (by omega) v620 y619 l0 _ _ _ (fun k_=>(w.heap.size≤k_)) (fun _=>False) rfl rfl ?aO ?aR (fun _ _ h=>h) (fun _ h=>h.elim) ?aF ?aB ?aS ?aL ?_;(case aR=>exact zC (Kd.C_below HR0.1 HB.1));(case aB=>exact zB3);(case aF=>exact (fun k_ hk=>(Nat.le_trans (below_size zB3) hk)));(case aO=>exact (by refine zrR ?_;exact Kd.R_mono HO621.1 (fun _ hk=>hk.1)));(case aS=>exact (below_size zB3));(case aL=>have:=LMc4.out;omega);intro v623 w10 ho hb hg hat;rw [←Ny622.1] at ho;replace HO1:=zM (Kd.V_afterv (ok:=(fun k_=>(P1_ k_∨w.heap.size≤k_)∧some k_≠(v617:Value).ownBlock)) (by refine zrV ?_;exact HO1.1) hg hat);replace HO618:=zM (Kd.R_over' (zR HO618.1) (Kd.R_typed (zR HO621.1)) (by decide) hg);replace HB:=zM hb;have HO624:=zM ho;clear HO621;clear ho hb hg hat)|((with_reducible refine gate_dst (N:=20) rfl ?_);(try (refine gate_guard (by rfl) ?_;dsimp only));refine Kd.N_lit k72 _ 72 ?hg (N':=20) ?hd (xs:=([]:List (S72))) (inner:=[]) (ok:=(fun k_=>(P1_ k_∨w.heap.size≤k_)∧some k_≠(v617:Value).ownBlock∧some k_≠(v623:Value).ownBlock)) (okp:=(fun k_=>(P1_ k_∨w.heap.size≤k_)∧some k_≠(v617:Value).ownBlock∧some k_≠(v623:Value).ownBlock)) ?hr ?hp (fun _ hk=>hk) ((show ∀k_,w10.heap.size≤k_→(fun k_=>(P1_ k_∨w.heap.size≤k_)∧some k_≠(v617:Value).ownBlock∧some k_≠(v623:Value).ownBlock) k_ from fun k_ hk=>⟨(.inr (Nat.le_trans (below_size zB3) hk)),Kd.fresh' (Kd.R_lt (zR HO618.1)) k_ hk,Kd.fresh' (Kd.R_lt (zR HO624.1)) k_ hk⟩) _ (Nat.le_refl _)) (Below.refl _ _) (Nat.le_refl _) (by simp) ?_;(case hd=>rfl);(case hg=>rfl);(case hr=>exact zHH);(case hp=>exact (Reps.none _ _));intro v626 w11 ho12 hb hg_ hnew_;clear hg_ hnew_;(first|rw [←Ny625.1] at ho12|(simp only [Int.reduceToNat] at ho12;rw [←Ny625.1] at ho12));replace HO1:=zM (Kd.V_elder' (by refine zrV ?_;exact HO1.1) (Kd.N_base ho12) hb);replace HO618:=zM (Kd.R_below (zR HO618.1) hb);replace HO624:=zM (Kd.R_below (zR HO624.1) hb);have HO627:=zM (Kd.N_lower ho12 (below_size zB3));replace HB:=zM (below_step zB3 hb);clear hb ho12)|((with_reducible refine gate_builtin (b:= .append) (xs:=#[.tmp 20,.tmp 21]) rfl ?_);(try (refine gate_guard (by rfl) ?_;dsimp only));at_builtin;refine Kd.N_append_rows k72 (w0:=w) w.heap.size rfl (.tmp 20) (.tmp 21) 25 72 (.agg #[(.slice none 0 0),(.int .i64 0),(.int .i64 0)]) 40 rfl Try.underlying25 info72 rfl (by decide) (by omega) v626 y625 l1 _ _ _ (fun k_=>(P1_ k_∨w.heap.size≤k_)∧some k_≠(v617:Value).ownBlock∧some k_≠(v623:Value).ownBlock) (fun k_=>((fun k_=>(P1_ k_∨w.heap.size≤k_)∧some k_≠(v617:Value).ownBlock∧some k_≠(v623:Value).ownBlock)) k_∧some k_≠(v626:Value).ownBlock) rfl rfl ?aO ?aR (fun _ hk=>hk) ?aF ?aB ?aS ?aL ?_;(case aR=>exact (by skip;exact Kd.V_F (Kd.V_mono (ok':=(fun k_=>((fun k_=>(P1_ k_∨w.heap.size≤k_)∧some k_≠(v617:Value).ownBlock∧some k_≠(v623:Value).ownBlock)) k_∧some k_≠(v626:Value).ownBlock)) (HO1.1) (fun k_ hk=>⟨⟨hk.1.1.1,⟨hk.1.1.2,hk.1.2⟩⟩,hk.2⟩))));(case aB=>exact zB3);(case aF=>exact (fun k_ hk=>⟨(.inr (Nat.le_trans (below_size zB3) hk)),Kd.fresh' (Kd.R_lt (zR HO618.1)) k_ hk,Kd.fresh' (Kd.R_lt (zR HO624.1)) k_ hk⟩));(case aO=>exact (by refine zrN ?_;exact HO627.1));(case aS=>exact (below_size zB3));(case aL=>have:=LMc5.out;omega);intro v629 w13 ho hb hg hat;rw [←Ny628.1] at ho;replace HO1:=zM (Kd.V_afterv (ok:=(fun k_=>(P1_ k_∨w.heap.size≤k_)∧some k_≠(v617:Value).ownBlock∧some k_≠(v623:Value).ownBlock)) (by refine zrV ?_;exact Kd.V_mono HO1.1 (fun _ hk=>⟨⟨hk.1.1.1,⟨hk.1.1.2,hk.1.2⟩⟩,hk.2⟩)) hg hat);replace HO618:=zM (Kd.R_over' (zR HO618.1) (Kd.N_typed (by refine zrN ?_;exact HO627.1)) (by decide) hg);replace HO624:=zM (Kd.R_over' (zR HO624.1) (Kd.N_typed (by refine zrN ?_;exact HO627.1)) (by decide) hg);replace HB:=zM hb;have HO630:=zM ho;clear HO627;clear ho hb hg hat))
 go_loopg [7,8,10] k (fun kq v7 v8 v10 w'=>∃(x7_1:List (S74)) (x8_1:List Int) (x9_1:List (S72)) (x10_1:Int),v10= .int .i64 x10_1∧Aside0 (spec_Trace.l0 kq l2 x7_1 x8_1 x9_1 x10_1=some r)∧Aside0 (kq≤k)∧Aside0 (Kd.R k74 74 w' w.heap.size (fun k_=>(w.heap.size≤k_)) v7 x7_1)∧Aside0 (Kd.R (Kd.int .i64) 3 w' w.heap.size (fun k_=>(w.heap.size≤k_)) v8 x8_1)∧Aside0 (Kd.N k72 72 w' w.heap.size (fun k_=>(P1_ k_∨w.heap.size≤k_)∧some k_≠(v7:Value).ownBlock∧some k_≠(v8:Value).ownBlock) v629 x9_1)∧Aside0 (Below w.heap.size w w'))
 case atStart=>exact ⟨(y616),(y622),(y628),(0),zJJ,H',⟨Nat.le_refl _⟩,⟨by refine zrR ?_;exact Kd.R_mono HO618.1 (fun _ hk=>hk.1)⟩,⟨zR HO624.1⟩,⟨by refine zrN ?_;exact HO630.1⟩,⟨zB3⟩⟩
 case round=>
  clear H'
  obtain ⟨x7_1,x8_1,x9_1,x10_1,rfl,HA,HK1,HO_7,HO_8,HO_9,HB⟩:=hrel
  cases gk with
  |zero=>exact absurd HA.1 (by simp [spec_Trace.l0])
  |succ k1=>
   have H:=HA.1
   clear HA
   simp only [spec_Trace.l0] at H
   have HC14:=zM H
   clear H
   go_upto_region 5 with (fail)
   go_cut [31] (fun v31 wc=>∃(kq:Nat) (x31_13:Bool),v31= .bool x31_13∧Aside0 (spec_Trace.j1 kq l2 x7_1 x8_1 x9_1 x10_1 x31_13=some r)∧Aside0 (kq≤k1)∧Aside0 (Kd.R k74 74 wc w.heap.size (fun k_=>(w.heap.size≤k_)) u7 x7_1)∧Aside0 (Kd.R (Kd.int .i64) 3 wc w.heap.size (fun k_=>(w.heap.size≤k_)) u8 x8_1)∧Aside0 (Kd.N k72 72 wc w.heap.size (fun k_=>(P1_ k_∨w.heap.size≤k_)∧some k_≠(u7:Value).ownBlock∧some k_≠(u8:Value).ownBlock) v629 x9_1)∧Aside0 (Below w.heap.size w wc))
   case first=>
    have H:=HC14.1
    clear HC14
    by_cases c15:x10_1<(l2.length:Int)
    rotate_left
    ·rw [if_neg c15] at H
     have c15b0:=decide_eq_false c15
     clear c15
     (first|rw [c15b0]|(simp only [i64_w,i32_w];rw [c15b0])|skip)
     have H':=zM H
     clear H
     go_wp2
     go_meet
     case rel=>exact ⟨_,(false),zJJ,H',⟨by have:=HK1.1;first|omega|exact Nat.le_refl _⟩,⟨zR HO_7.1⟩,⟨zR HO_8.1⟩,⟨by refine zrN ?_;exact HO_9.1⟩,⟨zB3⟩⟩
    rw [if_pos c15] at H
    have c15b0:=decide_eq_true c15
    clear c15
    (first|rw [c15b0]|(simp only [i64_w,i32_w];rw [c15b0])|skip)
    have H':=zM H
    clear H
    go_wp2
    go_meet
    case rel=>exact ⟨_,(decide ((l2.length:Int)≤2000)),zJJ,H',⟨by have:=HK1.1;first|omega|exact Nat.le_refl _⟩,⟨zR HO_7.1⟩,⟨zR HO_8.1⟩,⟨by refine zrN ?_;exact HO_9.1⟩,⟨zB3⟩⟩
   case rest=>
    clear HC14
    obtain ⟨kq,x31_13,rfl,HA,HJ13,HO_7,HO_8,HO_9,HB⟩:=hcut
    cases kq with
    |zero=>exact absurd HA.1 (by simp [spec_Trace.j1])
    |succ kj13=>
     have H:=HA.1
     clear HA
     simp only [spec_Trace.j1] at H
     by_cases c16:x31_13=true
     rotate_left
     ·replace c16:=Bool.eq_false_iff.mpr c16
      subst c16
      rw [if_neg zF] at H
      obtain rfl:=Option.some.inj H
      go_wp2
      go_ret
      exact ⟨_,zE,zR HO_7.1,zB3⟩
     subst c16
     rw [if_pos rfl] at H
     replace H:=zIt H
     obtain ⟨c17b0,H⟩:=H
     replace H:=zIt H
     obtain ⟨c18b0,H⟩:=H
     replace H:=zO H
     obtain ⟨t632,A19,H⟩:=H
     by_cases c20:t632=true
     rotate_left
     ·replace c20:=Bool.eq_false_iff.mpr c20
      subst c20
      rw [if_neg zF] at H
      have H':=zM H
      clear H
      obtain ⟨p631,q631,ad631,e631,hx631_0⟩:=zRd (Kd.at_int HR2.1 x10_1)
      cases e631
      replace hx631_0:=zHx HB.1 hx631_0
      obtain ⟨Ao60,co60,eo60⟩:=Kd.N_slice HO_9.1
      subst eo60
      go_wp2_with (first|((with_reducible refine zG Try.func46 42 #[.int .i64 (rd l2 x10_1),.int .i64 0,.int .i64 (wrap64 ((x9_1.length:Int)-1))] ?_);(with_reducible refine (spec_l1In.calls (rd l2 x10_1) 0 (wrap64 ((x9_1.length:Int)-1)) false _ A19.1).mono ?_);rintro e w' ⟨rfl,⟨nd,rfl⟩⟩;refine ⟨_,rfl,?_⟩))
      go_roundg kj13
      case measure=>have:=HK1.1;have:=HJ13.1;omega
      case rel=>exact ⟨(x7_1),(x8_1),(x9_1),(wrap64 (x10_1+1)),zJJ,H',⟨by have:=HK1.1;have:=HJ13.1;omega⟩,⟨zR HO_7.1⟩,⟨zR HO_8.1⟩,⟨by refine zrN ?_;exact HO_9.1⟩,⟨zB3⟩⟩
     subst c20
     rw [if_pos rfl] at H
     replace H:=zIt H
     obtain ⟨c21b0,H⟩:=H
     replace H:=zIt H
     obtain ⟨c22b0,H⟩:=H
     replace H:=zO H
     obtain ⟨⟨t634,t635,t636,t637,t638,t639⟩,A23,H⟩:=H
     try dsimp only at H
     by_cases c24:t639=true
     rotate_left
     ·replace c24:=Bool.eq_false_iff.mpr c24
      subst c24
      rw [if_neg zF] at H
      replace H:=zO H
      obtain ⟨⟨t656,t659,t662,t663⟩,A43,H⟩:=H
      try dsimp only at H
      generalize hy665:((x9_1.set ((rd l2 x10_1):Int).toNat (⟨t659,t662,t663⟩:S72)):List (S72))=y665 at H
      have Ny665:=zM hy665.symm
      clear hy665
      have H':=zM H
      clear H
      obtain ⟨p631,q631,ad631,e631,hx631_0⟩:=zRd (Kd.at_int HR2.1 x10_1)
      cases e631
      replace hx631_0:=zHx HB.1 hx631_0
      obtain ⟨Ao45,co45,eo45⟩:=Kd.N_slice HO_9.1
      subst eo45
      go_wp2_with (first|((with_reducible refine zG Try.func46 42 #[.int .i64 (rd l2 x10_1),.int .i64 0,.int .i64 (wrap64 ((x9_1.length:Int)-1))] ?_);(with_reducible refine (spec_l1In.calls (rd l2 x10_1) 0 (wrap64 ((x9_1.length:Int)-1)) true _ A19.1).mono ?_);rintro e w' ⟨rfl,⟨nd,rfl⟩⟩;refine ⟨_,rfl,?_⟩;(try (rw [drewN_self wc];generalize hq_:World.drewN wc _=wc;have n0_:Aside0 (Kd.R k74 74 wc w.heap.size (fun k_=>(w.heap.size≤k_)) u7 x7_1):=⟨by rw [←hq_];exact (zR HO_7.1)⟩;have n1_:Aside0 (Kd.R (Kd.int .i64) 3 wc w.heap.size (fun k_=>(w.heap.size≤k_)) u8 x8_1):=⟨by rw [←hq_];exact (zR HO_8.1)⟩;have n2_:Aside0 (Kd.N k72 72 wc w.heap.size (fun k_=>(P1_ k_∨w.heap.size≤k_)∧some k_≠(u7:Value).ownBlock∧some k_≠(u8:Value).ownBlock) (.slice Ao45 x9_1.length co45) x9_1):=⟨by rw [←hq_];exact (by refine zrN ?_;exact HO_9.1)⟩;have n3_:Aside0 (Below w.heap.size w wc):=⟨by rw [←hq_];exact zB3⟩;clear HO_7 HO_8 HO_9 HB hq_;have HO_7:=n0_;have HO_8:=n1_;have HO_9:=n2_;have HB:=n3_;clear n0_ n1_ n2_ n3_));have p633:0≤((rd l2 x10_1):Int):=zA;have q633:(rd l2 x10_1)<(x9_1.length:Int):=zA;obtain ⟨ad633,A633_0,c633_0,e633,hx633_0,hx633_1,hx633_2,hl633_0,hi633_0⟩:=at_T72 (Kd.N_reads' HO_9.1).2.2 (rd l2 x10_1) p633 q633;cases e633;obtain ⟨ce633,hce633,hMe633,hcc633⟩:=Kd.N_get HO_9.1 z72 (rd l2 x10_1) p633 (by first|exact q633|exact zA|(have e_:=(Kd.N_reads' HO_9.1).1;omega));obtain ⟨ua633_0,uc633_0,rfl,ul633_0,ge633_0⟩:=k72_openF hMe633;have hv633_0:=hcc633 0 _ rfl;rw [Nat.add_zero] at hv633_0;replace hv633_0:=Option.some.inj (hv633_0.symm.trans hx633_0);injection hv633_0 with hva_ hvn_ hvc_;rw [hva_] at ge633_0;rw [hvc_] at ul633_0;have HL633_0:=zM (show Kd.V (Kd.int .i64) 3 _ w.heap.size _ _ ((rd_T72 x9_1 (rd l2 x10_1)).f0) from Kd.V_mk ul633_0 ge633_0);clear hva_ hvn_ hvc_ ge633_0 ul633_0;clear hcc633 hce633;have HR633_0:=zM hi633_0;have HC633_0:=zM hl633_0;clear hi633_0 hl633_0;replace p633:=eq_true p633;replace q633:=eq_true q633;obtain ⟨Ao46,co46,eo46⟩:=Kd.R_slice HO_8.1;subst eo46)|((with_reducible refine zG Try.func81 51 #[.slice Ao46 x8_1.length co46,.agg #[.slice A633_0 ((rd_T72 x9_1 (rd l2 x10_1)).f0).length c633_0,.int .i64 ((rd_T72 x9_1 (rd l2 x10_1)).f1),.int .i64 ((rd_T72 x9_1 (rd l2 x10_1)).f2)],.int .i64 (rd l2 x10_1)] ?_);(with_reducible refine (spec_EventOf.calls kj13 _ _ x8_1 _ _ ((rd_T72 x9_1 (rd l2 x10_1)).f0) ((rd_T72 x9_1 (rd l2 x10_1)).f1) ((rd_T72 x9_1 (rd l2 x10_1)).f2) (rd l2 x10_1) t634 t635 t636 t637 t638 false _ ?side1 ?side2 ?side3 ?side4 A23.1).mono ?_);(case side1=>exact zC (Kd.R_reads' HO_8.1).2.2);(case side2=>exact (Kd.R_reads' HO_8.1).2.1);(case side3=>exact zC HR633_0.1);(case side4=>exact HC633_0.1);rintro e w47 ⟨rfl,hb⟩;refine ⟨_,rfl,?_⟩;replace HO_7:=zM (Kd.R_below (zR HO_7.1) hb);replace HO_8:=zM (Kd.R_below (zR HO_8.1) hb);replace HO_9:=zM (Kd.N_below (by refine zrN ?_;exact HO_9.1) hb);replace HL633_0:=zM (Kd.V_below (by refine zrV ?_;exact HL633_0.1) hb);replace HR633_0:=zM (Kd.C_below (zC HR633_0.1) hb);replace HB:=zM (below_step zB3 hb);clear hb)|((with_reducible refine gate_dst (N:=12) rfl ?_);(try (refine gate_guard (by rfl) ?_;dsimp only));(with_reducible refine zBx 12 74 #[.int .i64 0,.int .i64 0,.int .i64 0,.int .i64 0,.int .i64 0] ?_);intro gb640 hg w48 hbox hb;replace HO_7:=zM (Kd.R_below (Kd.R_elderB (zR HO_7.1) gb640 (Nat.le_of_eq hg.symm)) hb);replace HO_8:=zM (Kd.R_below (zR HO_8.1) hb);replace HO_9:=zM (Kd.N_below (Kd.N_elderB (by refine zrN ?_;exact HO_9.1) gb640 (Nat.le_of_eq hg.symm)) hb);replace HL633_0:=zM (Kd.V_below (Kd.V_elderB (by refine zrV ?_;exact HL633_0.1) gb640 (Nat.le_of_eq hg.symm)) hb);replace HR633_0:=zM (Kd.C_below (zC HR633_0.1) hb);have BK640:=zM hbox;have GW640:=zM (zW hg (below_size zB3));have GE640:=zM (zW hg (below_size zB3));replace HB:=zM (below_step zB3 hb);clear hb hbox hg;have hcz49:=zc_5 (w:=w48) BK640.1)|((with_reducible refine gate_store (t:=74) (p:=12) rfl ?_);refine store_event (t:=74) (p:=12) (v:=?vo_w50) (w1:=(((((w48.setCell ⟨gb640,0,none⟩ (.int .i64 t634)).setCell ⟨gb640,1,none⟩ (.int .i64 t635)).setCell ⟨gb640,2,none⟩ (.int .i64 t636)).setCell ⟨gb640,3,none⟩ (.int .i64 t637)).setCell ⟨gb640,4,none⟩ (.int .i64 t638))) ?hg ?ho ?hn ?hr ?_;(case ho=>rfl);(case hg=>rfl);(case hn=>rfl);(case hr=>exact zHH);intro w50 hw;have n0_:Aside0 (Kd.R k74 74 w50 w.heap.size (fun k_=>(w.heap.size≤k_)∧k_≠gb640) u7 x7_1):=⟨(by rw [hw];exact (by refine zrR ?_;exact Kd.R_mono (zfR (zfR (zfR (zfR (zfR (Kd.R_mono HO_7.1 (fun k_ hk=>(⟨hk,hk.2⟩:_∧k_≠gb640)))))))) (fun _ hk=>⟨hk.1.1,hk.1.2⟩)))⟩;have n1_:Aside0 (Kd.R (Kd.int .i64) 3 w50 w.heap.size (fun k_=>(w.heap.size≤k_)) (.slice Ao46 x8_1.length co46) x8_1):=⟨(by rw [hw];exact (by refine zrR ?_;exact Kd.R_mono (zfR (zfR (zfR (zfR (zfR (Kd.R_types HO_8.1 BK640.1 (by decide))))))) (fun _ hk=>hk.1)))⟩;have n2_:Aside0 (Kd.N k72 72 w50 w.heap.size (fun k_=>(P1_ k_∨w.heap.size≤k_)∧some k_≠(u7:Value).ownBlock∧some k_≠(.slice Ao46 x8_1.length co46:Value).ownBlock∧k_≠gb640) (.slice (some ad633) x9_1.length co45) x9_1):=⟨(by rw [hw];exact (by refine zrN ?_;exact Kd.N_mono (zfN (zfN (zfN (zfN (zfN (Kd.N_mono HO_9.1 (fun k_ hk=>(⟨hk,hk.2⟩:_∧k_≠gb640)))))))) (fun _ hk=>⟨hk.1.1.1,⟨hk.1.1.2.1,⟨hk.1.1.2.2,hk.1.2⟩⟩⟩)))⟩;have n3_:Aside0 (Kd.V (Kd.int .i64) 3 w50 w.heap.size (fun k_=>(P1_ k_∨w.heap.size≤k_)∧some k_≠(u7:Value).ownBlock∧some k_≠(.slice Ao46 x8_1.length co46:Value).ownBlock∧some k_≠(.slice (some ad633) x9_1.length co45:Value).ownBlock∧k_≠gb640) (.slice A633_0 ((rd_T72 x9_1 (rd l2 x10_1)).f0).length c633_0) ((rd_T72 x9_1 (rd l2 x10_1)).f0)):=⟨(by rw [hw];exact (by refine zrV ?_;exact Kd.V_mono (zfV (zfV (zfV (zfV (zfV (Kd.V_mono HL633_0.1 (fun k_ hk=>(⟨hk,hk.2⟩:_∧k_≠gb640)))))))) (fun _ hk=>⟨hk.1.1.1.1,⟨hk.1.1.1.2.1,⟨hk.1.1.1.2.2,⟨hk.1.1.2,hk.1.2⟩⟩⟩⟩)))⟩;have n4_:Aside0 (w50.heap[gb640]? =some (.cells #[.int .i64 t634,.int .i64 t635,.int .i64 t636,.int .i64 t637,.int .i64 t638] 74 (0,0))):=⟨(by rw [hw];exact (by exact zp5 (zK BK640.1)))⟩;have n5_:Aside0 (Below w.heap.size w w50):=⟨(by rw [hw];exact zB3)⟩;clear hw;clear HO_7;clear HO_8;clear HO_9;clear HL633_0;clear BK640;clear HB;have HO_7:=n0_;have HO_8:=n1_;have HO_9:=n2_;have HL633_0:=n3_;have BK640:=n4_;have HB:=n5_;clear n0_ n1_ n2_ n3_ n4_ n5_;have p655:0≤((rd l2 x10_1):Int):=zA;have q655:(rd l2 x10_1)<(x9_1.length:Int):=zA;obtain ⟨ad655,A655_0,c655_0,e655,hx655_0,hx655_1,hx655_2,hl655_0,hi655_0⟩:=at_T72 (Kd.N_reads' HO_9.1).2.2 (rd l2 x10_1) p655 q655;obtain rfl:ad633=ad655:=(by injection e655);obtain ⟨ce655,hce655,hMe655,hcc655⟩:=Kd.N_get HO_9.1 z72 (rd l2 x10_1) p655 (by first|exact q655|exact zA|(have e_:=(Kd.N_reads' HO_9.1).1;omega));obtain ⟨ua655_0,uc655_0,rfl,ul655_0,ge655_0⟩:=k72_openF hMe655;have hv655_0:=hcc655 0 _ rfl;rw [Nat.add_zero] at hv655_0;replace hv655_0:=Option.some.inj (hv655_0.symm.trans hx655_0);injection hv655_0 with hva_ hvn_ hvc_;rw [hva_] at ge655_0;rw [hvc_] at ul655_0;have HL655_0:=zM (show Kd.V (Kd.int .i64) 3 _ w.heap.size _ _ ((rd_T72 x9_1 (rd l2 x10_1)).f0) from Kd.V_mk ul655_0 ge655_0);clear hva_ hvn_ hvc_ ge655_0 ul655_0;clear hcc655 hce655;have HR655_0:=zM hi655_0;have HC655_0:=zM hl655_0;clear hi655_0 hl655_0;replace p655:=eq_true p655;replace q655:=eq_true q655)|((with_reducible refine zG Try.func82 65 #[.slice Ao46 x8_1.length co46,.agg #[.slice A655_0 ((rd_T72 x9_1 (rd l2 x10_1)).f0).length c655_0,.int .i64 ((rd_T72 x9_1 (rd l2 x10_1)).f1),.int .i64 ((rd_T72 x9_1 (rd l2 x10_1)).f2)]] ?_);(with_reducible refine (spec_FlatStep.calls kj13 _ _ x8_1 _ _ ((rd_T72 x9_1 (rd l2 x10_1)).f0) ((rd_T72 x9_1 (rd l2 x10_1)).f1) ((rd_T72 x9_1 (rd l2 x10_1)).f2) t656 t659 t662 t663 _ ?side1 ?side2 ?side3 ?side4 A43.1).mono ?_);(case side1=>exact zC (Kd.R_reads' HO_8.1).2.2);(case side2=>exact (Kd.R_reads' HO_8.1).2.1);(case side3=>exact zC HR655_0.1);(case side4=>exact HC655_0.1);rintro e w51 ⟨v657,v660,rfl,ho0,ho1,hb⟩;refine ⟨_,rfl,?_⟩;have n0_:=zM (Kd.R_below (zR HO_7.1) hb);have n1_:=zM (Kd.R_mono (Kd.R_told (Kd.R_told (Kd.R_old (zR HO_8.1) hb) (Kd.R_base ho0)) (Kd.R_base ho1)) (fun _ h_=>h_.1));have n2_:=zM (Kd.N_mono (Kd.N_told (Kd.N_told (Kd.N_old (by refine zrN ?_;exact HO_9.1) hb) (Kd.R_base ho0)) (Kd.R_base ho1)) (fun _ h_=>h_.1));have n3_:=zM (Kd.V_mono (Kd.V_told (Kd.V_told (Kd.V_old (by refine zrV ?_;exact HL633_0.1) hb) (Kd.R_base ho0)) (Kd.R_base ho1)) (fun _ h_=>h_.1));have n4_:=zM (Kd.V_mono (Kd.V_told (Kd.V_told (Kd.V_old (by refine zrV ?_;exact HL655_0.1) hb) (Kd.R_base ho0)) (Kd.R_base ho1)) (fun _ h_=>h_.1));have n5_:=zM (Kd.R_lower (Kd.R_new' (Kd.R_newM (M:=fun k_=>(w.heap.size≤k_)) ho0 (below_size zB3) (fun k_ h_=>h_)) (Kd.R_lt (zR HO_8.1))) (below_size zB3));have n6_:=zM (Kd.R_lower (Kd.R_new' (Kd.R_newM (M:=fun k_=>(w.heap.size≤k_)) ho1 (below_size zB3) (fun k_ h_=>h_)) (Kd.R_lt (zR HO_8.1))) (below_size zB3));have n8_:=zM (zb BK640.1 hb);have n9_:=zM (Kd.C_below (zC HR655_0.1) hb);have n10_:=zM (below_step zB3 hb);clear HO_7;clear HO_8;clear HO_9;clear HL633_0;clear HL655_0;clear BK640;clear HR655_0;clear HB;have HO_7:=n0_;have HO_8:=n1_;have HO_9:=n2_;have HL633_0:=n3_;have HL655_0:=n4_;have HO658:=n5_;have HO661:=n6_;have BK640:=n8_;have HR655_0:=n9_;have HB:=n10_;clear n0_ n1_ n2_ n3_ n4_ n5_ n6_ n8_ n9_ n10_;clear hb ho0 ho1)|((with_reducible refine gate_dst (N:=15) rfl ?_);(try (refine gate_guard (by rfl) ?_;dsimp only));(with_reducible refine zBx 15 72 #[.slice none 0 0,.int .i64 0,.int .i64 0] ?_);intro gb664 hg w52 hbox hb;have n0_:=zM (Kd.R_below (zR HO_7.1) hb);have n1_:=zM (Kd.R_below (zR HO_8.1) hb);have n2_:=zM (Kd.N_below (Kd.N_elderB (by refine zrN ?_;exact HO_9.1) gb664 (Nat.le_of_eq hg.symm)) hb);have n3_:=zM (Kd.V_below (Kd.V_elderB (by refine zrV ?_;exact HL633_0.1) gb664 (Nat.le_of_eq hg.symm)) hb);have n4_:=zM (Kd.V_below (Kd.V_elderB (by refine zrV ?_;exact HL655_0.1) gb664 (Nat.le_of_eq hg.symm)) hb);have n5_:=zM (Kd.R_below (zR HO658.1) hb);have n6_:=zM (Kd.R_below (zR HO661.1) hb);have n8_:=zM (zb BK640.1 hb);have n9_:=zM (Kd.C_below (zC HR655_0.1) hb);have n10_:=zM (below_step zB3 hb);have n11_:=zM hbox;have n12_:=zM (zW hg (below_size zB3));have n13_:=zM (zW hg (below_size zB3));have n14_:=zM ((zn BK640.1 hg:gb640≠gb664));have n15_:=zM ((zm BK640.1 hg:gb664≠gb640));clear HO_7;clear HO_8;clear HO_9;clear HL633_0;clear HL655_0;clear HO658;clear HO661;clear BK640;clear HR655_0;clear HB;have HO_7:=n0_;have HO_8:=n1_;have HO_9:=n2_;have HL633_0:=n3_;have HL655_0:=n4_;have HO658:=n5_;have HO661:=n6_;have BK640:=n8_;have HR655_0:=n9_;have HB:=n10_;have BK664:=n11_;have GW664:=n12_;have GE664:=n13_;have NB640_664:=n14_;have NB664_640:=n15_;clear n0_ n1_ n2_ n3_ n4_ n5_ n6_ n8_ n9_ n10_ n11_ n12_ n13_ n14_ n15_;clear hb hbox hg;obtain ⟨Ao53,co53,eo53⟩:=Kd.R_slice HO661.1;subst eo53;have hnb54:=NB664_640.1;have hnc54:=NB640_664.1;have hcz55:=zc_3 (w:=w52) BK664.1)|((with_reducible refine gate_store (t:=72) (p:=15) rfl ?_);refine store_event (t:=72) (p:=15) (v:=?vo_w56) (w1:=(((w52.setCell ⟨gb664,0,none⟩ (.slice Ao53 t659.length co53)).setCell ⟨gb664,1,none⟩ (.int .i64 t662)).setCell ⟨gb664,2,none⟩ (.int .i64 t663))) ?hg ?ho ?hn ?hr ?_;(case ho=>rfl);(case hg=>rfl);(case hn=>rfl);(case hr=>exact zHH);intro w56 hw;have n0_:Aside0 (Kd.R k74 74 w56 w.heap.size (fun k_=>(w.heap.size≤k_)∧k_≠gb640) u7 x7_1):=⟨(by rw [hw];exact (by refine zrR ?_;exact Kd.R_mono (zfR (zfR (zfR (Kd.R_types HO_7.1 BK664.1 (by decide))))) (fun _ hk=>⟨hk.1.1,hk.1.2⟩)))⟩;have n1_:Aside0 (Kd.R (Kd.int .i64) 3 w56 w.heap.size (fun k_=>(w.heap.size≤k_)∧some k_≠(v657:Value).ownBlock∧some k_≠(.slice Ao53 t659.length co53:Value).ownBlock) (.slice Ao46 x8_1.length co46) x8_1):=⟨(by rw [hw];exact (by refine zrR ?_;exact Kd.R_mono (zfR (zfR (zfR (Kd.R_types HO_8.1 BK664.1 (by decide))))) (fun _ hk=>⟨hk.1.1.1,⟨hk.1.1.2,hk.1.2⟩⟩)))⟩;have n2_:Aside0 (Kd.N k72 72 w56 w.heap.size (fun k_=>(P1_ k_∨w.heap.size≤k_)∧some k_≠(u7:Value).ownBlock∧some k_≠(.slice Ao46 x8_1.length co46:Value).ownBlock∧some k_≠(v657:Value).ownBlock∧some k_≠(.slice Ao53 t659.length co53:Value).ownBlock∧k_≠gb640∧k_≠gb664) (.slice (some ad633) x9_1.length co45) x9_1):=⟨(by rw [hw];exact (by refine zrN ?_;exact Kd.N_mono (zfN (zfN (zfN (Kd.N_mono HO_9.1 (fun k_ hk=>(⟨hk,hk.2⟩:_∧k_≠gb664)))))) (fun _ hk=>⟨hk.1.1.1.1.1,⟨hk.1.1.1.1.2.1,⟨hk.1.1.1.1.2.2.1,⟨hk.1.1.1.2,⟨hk.1.1.2,⟨hk.1.1.1.1.2.2.2,hk.1.2⟩⟩⟩⟩⟩⟩)))⟩;have n3_:Aside0 (Kd.V (Kd.int .i64) 3 w56 w.heap.size (fun k_=>(P1_ k_∨w.heap.size≤k_)∧some k_≠(u7:Value).ownBlock∧some k_≠(.slice Ao46 x8_1.length co46:Value).ownBlock∧some k_≠(.slice (some ad633) x9_1.length co45:Value).ownBlock∧some k_≠(v657:Value).ownBlock∧some k_≠(.slice Ao53 t659.length co53:Value).ownBlock∧k_≠gb640∧k_≠gb664) (.slice A633_0 ((rd_T72 x9_1 (rd l2 x10_1)).f0).length c633_0) ((rd_T72 x9_1 (rd l2 x10_1)).f0)):=⟨(by rw [hw];exact (by refine zrV ?_;exact Kd.V_mono (zfV (zfV (zfV (Kd.V_mono HL633_0.1 (fun k_ hk=>(⟨hk,hk.2⟩:_∧k_≠gb664)))))) (fun _ hk=>⟨hk.1.1.1.1.1,⟨hk.1.1.1.1.2.1,⟨hk.1.1.1.1.2.2.1,⟨hk.1.1.1.1.2.2.2.1,⟨hk.1.1.1.2,⟨hk.1.1.2,⟨hk.1.1.1.1.2.2.2.2,hk.1.2⟩⟩⟩⟩⟩⟩⟩)))⟩;have n4_:Aside0 (Kd.V (Kd.int .i64) 3 w56 w.heap.size (fun k_=>(P1_ k_∨w.heap.size≤k_)∧some k_≠(u7:Value).ownBlock∧some k_≠(.slice Ao46 x8_1.length co46:Value).ownBlock∧some k_≠(.slice (some ad633) x9_1.length co45:Value).ownBlock∧some k_≠(v657:Value).ownBlock∧some k_≠(.slice Ao53 t659.length co53:Value).ownBlock∧k_≠gb640∧k_≠gb664) (.slice A655_0 ((rd_T72 x9_1 (rd l2 x10_1)).f0).length c655_0) ((rd_T72 x9_1 (rd l2 x10_1)).f0)):=⟨(by rw [hw];exact (by refine zrV ?_;exact Kd.V_mono (zfV (zfV (zfV (Kd.V_mono HL655_0.1 (fun k_ hk=>(⟨hk,hk.2⟩:_∧k_≠gb664)))))) (fun _ hk=>⟨hk.1.1.1.1.1.1,⟨hk.1.1.1.1.1.2.1,⟨hk.1.1.1.1.1.2.2.1,⟨hk.1.1.1.1.2,⟨hk.1.1.1.2,⟨hk.1.1.2,⟨hk.1.1.1.1.1.2.2.2,hk.1.2⟩⟩⟩⟩⟩⟩⟩)))⟩;have n5_:Aside0 (Kd.R (Kd.int .i64) 3 w56 w.heap.size (fun k_=>(w.heap.size≤k_)∧some k_≠(.slice Ao46 x8_1.length co46:Value).ownBlock∧some k_≠(.slice Ao53 t659.length co53:Value).ownBlock) v657 t656):=⟨(by rw [hw];exact (by refine zrR ?_;exact Kd.R_mono (zfR (zfR (zfR (Kd.R_types HO658.1 BK664.1 (by decide))))) (fun _ hk=>⟨hk.1.1.1,⟨hk.1.2,hk.1.1.2⟩⟩)))⟩;have n6_:Aside0 (Kd.R (Kd.int .i64) 3 w56 w.heap.size (fun k_=>(w.heap.size≤k_)∧some k_≠(.slice Ao46 x8_1.length co46:Value).ownBlock∧some k_≠(v657:Value).ownBlock) (.slice Ao53 t659.length co53) t659):=⟨(by rw [hw];exact (by refine zrR ?_;exact Kd.R_mono (zfR (zfR (zfR (Kd.R_types HO661.1 BK664.1 (by decide))))) (fun _ hk=>⟨hk.1.1.1,⟨hk.1.2,hk.1.1.2⟩⟩)))⟩;have n7_:Aside0 (w56.heap[gb640]? =some (.cells #[.int .i64 t634,.int .i64 t635,.int .i64 t636,.int .i64 t637,.int .i64 t638] 74 (0,0))):=⟨(by rw [hw];exact zPq)⟩;have n8_:Aside0 (w56.heap[gb664]? =some (.cells #[.slice Ao53 t659.length co53,.int .i64 t662,.int .i64 t663] 72 (0,0))):=⟨(by rw [hw];exact (by exact zp3 (zK BK664.1)))⟩;have n9_:Aside0 (Below w.heap.size w w56):=⟨(by rw [hw];exact zB3)⟩;clear hw;clear HO_7;clear HO_8;clear HO_9;clear HL633_0;clear HL655_0;clear HO658;clear HO661;clear BK640;clear BK664;clear HB;have HO_7:=n0_;have HO_8:=n1_;have HO_9:=n2_;have HL633_0:=n3_;have HL655_0:=n4_;have HO658:=n5_;have HO661:=n6_;have BK640:=n7_;have BK664:=n8_;have HB:=n9_;clear n0_ n1_ n2_ n3_ n4_ n5_ n6_ n7_ n8_ n9_;have hcz57:=zc_3 (w:=w56) BK664.1;have p44:0≤((rd l2 x10_1):Int):=zA;have q44:((rd l2 x10_1):Int)<((x9_1.length:Int):Int):=zA;obtain ⟨go44,co44,eo44,gb44,gl44,cl44,HG44⟩:=Kd.N_form HO_9.1 (by omega);(first|cases eo44|(injection eo44 with ea_ en_ ec_;(first|subst ea_|(injection ea_ with ea_;subst ea_));subst ec_;clear en_));have GB44:=zM gb44;have GG44:=zM HG44;clear gb44 gl44 HG44;(first|simp only [add_plain] at hx633_0|skip);(first|simp only [add_plain] at hx633_1|skip);(first|simp only [add_plain] at hx633_2|skip);(first|simp only [add_plain] at hx655_0|skip);(first|simp only [add_plain] at hx655_1|skip);(first|simp only [add_plain] at hx655_2|skip);obtain ⟨ce44,hcl44,hM44,hcc44,hfr44⟩:=Kd.N_elem HO_9.1 z72 ((rd l2 x10_1):Int) p44 q44;obtain ⟨ua44_0,uc44_0,rfl,ul44_0,ge44_0⟩:=k72_openF hM44;have hx44_0:w56.cell? ⟨go44,((rd l2 x10_1):Int).toNat*3,none⟩=some (.slice ua44_0 ((rd_T72 x9_1 (rd l2 x10_1)).f0).length uc44_0):=hcc44 0 _ rfl;have hx44_1:w56.cell? ⟨go44,((rd l2 x10_1):Int).toNat*3+1,none⟩=some (.int .i64 ((rd_T72 x9_1 (rd l2 x10_1)).f1)):=hcc44 1 _ rfl;have hx44_2:w56.cell? ⟨go44,((rd l2 x10_1):Int).toNat*3+2,none⟩=some (.int .i64 ((rd_T72 x9_1 (rd l2 x10_1)).f2)):=hcc44 2 _ rfl;have hf44_0:w56.frozen? ⟨go44,((rd l2 x10_1):Int).toNat*3,none⟩=false:=hfr44 0;have hf44_1:w56.frozen? ⟨go44,((rd l2 x10_1):Int).toNat*3+1,none⟩=false:=hfr44 1;have hf44_2:w56.frozen? ⟨go44,((rd l2 x10_1):Int).toNat*3+2,none⟩=false:=hfr44 2;clear hcl44 hcc44 hfr44 hM44;replace p44:=eq_true p44;replace q44:=eq_true q44;have HX58:=zM (show Kd.N k72 72 w56 w.heap.size (fun k_=>(P1_ k_∨w.heap.size≤k_)∧some k_≠(u7:Value).ownBlock∧some k_≠(.slice Ao46 x8_1.length co46:Value).ownBlock∧some k_≠(v657:Value).ownBlock∧k_≠gb640∧k_≠gb664) (.slice (some ⟨go44,0,none⟩) x9_1.length co45) x9_1 from (by refine zrN ?_;exact Kd.N_mono HO_9.1 (fun _ hk=>⟨hk.1,⟨hk.2.1,⟨hk.2.2.1,⟨hk.2.2.2.1,⟨hk.2.2.2.2.2.1,hk.2.2.2.2.2.2⟩⟩⟩⟩⟩)));obtain ⟨ce58,hcl58,hM58,hcc58,hfr58⟩:=Kd.N_elem HX58.out z72 ((rd l2 x10_1):Int) zA (by have h_:((rd l2 x10_1):Int)<((x9_1.length:Int):Int):=zA;first|exact h_|(have e_:=(Kd.N_reads' HO_9.1).1;omega)|simpa using h_);obtain ⟨ua58_0,uc58_0,rfl,ul58_0,ge58_0⟩:=k72_openF hM58;have HP58:=Kd.N_seg HX58.out ((rd l2 x10_1):Int) zA (by have h_:((rd l2 x10_1):Int)<((x9_1.length:Int):Int):=zA;first|exact h_|(have e_:=(Kd.N_reads' HO_9.1).1;omega)|simpa using h_) (seg:=[.slice Ao53 t659.length co53,.int .i64 t662,.int .i64 t663]) (j:=0) hcl58 hcc58 (show 3≤3 from by decide) (x':=(⟨t659,t662,t663⟩:S72)) (k72_mkF _ _ (⟨t659,t662,t663⟩:S72) (Kd.R_reads' (Kd.R_mono (ok':=(fun k_=>((fun k_=>(P1_ k_∨w.heap.size≤k_)∧some k_≠(u7:Value).ownBlock∧some k_≠(.slice Ao46 x8_1.length co46:Value).ownBlock∧some k_≠(v657:Value).ownBlock∧k_≠gb640∧k_≠gb664)) k_∧k_≠go44)) (Kd.R_types (Kd.R_types (Kd.R_apart' (Kd.R_apart' (HO661.1) (Kd.R_typed HO_7.1) (by decide)) (Kd.N_typed HO_9.1) (by decide)) BK640.1 (by decide)) BK664.1 (by decide)) (fun k_ hk=>⟨⟨(.inr (hk.1.1.1.1.1)),⟨hk.1.1.1.2,⟨hk.1.1.1.1.2.1,⟨hk.1.1.1.1.2.2,⟨hk.1.2,hk.2⟩⟩⟩⟩⟩,fun e_=>(hk.1.1.2) (by rw [e_];rfl)⟩))).2.1 (Kd.R_F (Kd.R_mono (ok':=(fun k_=>((fun k_=>(P1_ k_∨w.heap.size≤k_)∧some k_≠(u7:Value).ownBlock∧some k_≠(.slice Ao46 x8_1.length co46:Value).ownBlock∧some k_≠(v657:Value).ownBlock∧k_≠gb640∧k_≠gb664)) k_∧k_≠go44)) (Kd.R_types (Kd.R_types (Kd.R_apart' (Kd.R_apart' (HO661.1) (Kd.R_typed HO_7.1) (by decide)) (Kd.N_typed HO_9.1) (by decide)) BK640.1 (by decide)) BK664.1 (by decide)) (fun k_ hk=>⟨⟨(.inr (hk.1.1.1.1.1)),⟨hk.1.1.1.2,⟨hk.1.1.1.1.2.1,⟨hk.1.1.1.1.2.2,⟨hk.1.2,hk.2⟩⟩⟩⟩⟩,fun e_=>(hk.1.1.2) (by rw [e_];rfl)⟩)))) (fun _ hk=>hk);have hx58_0:=hcc58 0 _ rfl;(try simp only [show (k72).sz=3 from rfl,Nat.mul_one,Nat.add_zero] at hx58_0);have hf58_0:=hfr58 0;(try simp only [show (k72).sz=3 from rfl,Nat.mul_one,Nat.add_zero] at hf58_0);have hx58_1:=hcc58 1 _ rfl;(try simp only [show (k72).sz=3 from rfl,Nat.mul_one,Nat.add_zero] at hx58_1);have hf58_1:=hfr58 1;(try simp only [show (k72).sz=3 from rfl,Nat.mul_one,Nat.add_zero] at hf58_1);have hx58_2:=hcc58 2 _ rfl;(try simp only [show (k72).sz=3 from rfl,Nat.mul_one,Nat.add_zero] at hx58_2);have hf58_2:=hfr58 2;(try simp only [show (k72).sz=3 from rfl,Nat.mul_one,Nat.add_zero] at hf58_2);clear hcl58 hcc58 hfr58 hM58)|((with_reducible refine gate_store (t:=72) (p:=72) rfl ?_);refine store_event (t:=72) (p:=72) (v:=?vo_w59) (w1:=(((w56.setCell ⟨go44,((rd l2 x10_1):Int).toNat*3,none⟩ (.slice Ao53 t659.length co53)).setCell ⟨go44,((rd l2 x10_1):Int).toNat*3+1,none⟩ (.int .i64 t662)).setCell ⟨go44,((rd l2 x10_1):Int).toNat*3+2,none⟩ (.int .i64 t663))) ?hg ?ho ?hn ?hr ?_;(case ho=>rfl);(case hg=>rfl);(case hn=>rfl);(case hr=>exact zHH);intro w59 hw;have hg:w56.grownBy w59 (some go44):=(by rw [hw];exact HP58.2);have hp_:Kd.N k72 72 w59 w.heap.size (fun k_=>(P1_ k_∨w.heap.size≤k_)∧some k_≠(u7:Value).ownBlock∧some k_≠(.slice Ao46 x8_1.length co46:Value).ownBlock∧some k_≠(v657:Value).ownBlock∧k_≠gb640∧k_≠gb664) (.slice (some ⟨go44,0,none⟩) x9_1.length co45) y665:=(by rw [hw,Ny665.1];exact HP58.1);clear HP58;replace HO_7:=zM (Kd.R_over' (v:=(.slice (some ⟨go44,0,none⟩) x9_1.length co45)) (zR HO_7.1) (Kd.N_typed HO_9.1) (by decide) hg);replace HO_8:=zM (Kd.R_over' (v:=(.slice (some ⟨go44,0,none⟩) x9_1.length co45)) (zR HO_8.1) (Kd.N_typed HO_9.1) (by decide) hg);replace HL633_0:=zM (Kd.V_afterv (v:=(.slice (some ⟨go44,0,none⟩) x9_1.length co45)) (v1:=(.slice (some ⟨go44,0,none⟩) x9_1.length co45)) (ok:=(fun k_=>(P1_ k_∨w.heap.size≤k_)∧some k_≠(u7:Value).ownBlock∧some k_≠(.slice Ao46 x8_1.length co46:Value).ownBlock∧some k_≠(v657:Value).ownBlock∧some k_≠(.slice Ao53 t659.length co53:Value).ownBlock∧k_≠gb640∧k_≠gb664)) (by refine zrV ?_;exact Kd.V_mono HL633_0.1 (fun _ hk=>⟨⟨hk.1,⟨hk.2.1,⟨hk.2.2.1,⟨hk.2.2.2.2.1,⟨hk.2.2.2.2.2.1,⟨hk.2.2.2.2.2.2.1,hk.2.2.2.2.2.2.2⟩⟩⟩⟩⟩⟩,hk.2.2.2.1⟩)) hg (.inl rfl));replace BK640:=zM (zg BK640.1 hg (Kd.N_ne HO_9.1 BK640.1 (by decide)));replace HL655_0:=zM (Kd.V_afterv (v:=(.slice (some ⟨go44,0,none⟩) x9_1.length co45)) (v1:=(.slice (some ⟨go44,0,none⟩) x9_1.length co45)) (ok:=(fun k_=>(P1_ k_∨w.heap.size≤k_)∧some k_≠(u7:Value).ownBlock∧some k_≠(.slice Ao46 x8_1.length co46:Value).ownBlock∧some k_≠(v657:Value).ownBlock∧some k_≠(.slice Ao53 t659.length co53:Value).ownBlock∧k_≠gb640∧k_≠gb664)) (by refine zrV ?_;exact Kd.V_mono HL655_0.1 (fun _ hk=>⟨⟨hk.1,⟨hk.2.1,⟨hk.2.2.1,⟨hk.2.2.2.2.1,⟨hk.2.2.2.2.2.1,⟨hk.2.2.2.2.2.2.1,hk.2.2.2.2.2.2.2⟩⟩⟩⟩⟩⟩,hk.2.2.2.1⟩)) hg (.inl rfl));replace HO658:=zM (Kd.R_over' (v:=(.slice (some ⟨go44,0,none⟩) x9_1.length co45)) (zR HO658.1) (Kd.N_typed HO_9.1) (by decide) hg);replace BK664:=zM (zg BK664.1 hg (Kd.N_away HO_9.1 (fun _ hk=>hk.2.2.2.2.2.2)));replace HO_9:=zM hp_;replace HB:=zM ((by rw [hw];exact below_set (below_set (below_set (HB.1) GB44.1) GB44.1) GB44.1:Below w.heap.size w w59));clear HO661;clear hg hw hp_))
      go_roundg kj13
      case measure=>have:=HK1.1;have:=HJ13.1;omega
      case rel=>exact ⟨(x7_1),(t656),(y665),(wrap64 (x10_1+1)),zJJ,H',⟨by have:=HK1.1;have:=HJ13.1;omega⟩,⟨by refine zrR ?_;exact Kd.R_mono HO_7.1 (fun _ hk=>hk.1)⟩,⟨by refine zrR ?_;exact Kd.R_mono HO658.1 (fun _ hk=>hk.1)⟩,⟨by refine zrN ?_;exact Kd.N_mono HO_9.1 (fun _ hk=>⟨hk.1,⟨hk.2.1,hk.2.2.2.1⟩⟩)⟩,⟨zB3⟩⟩
     subst c24
     rw [if_pos rfl] at H
     replace H:=zIn H
     obtain ⟨LMc25,H⟩:=H
     generalize hy641:((x7_1++[(⟨t634,t635,t636,t637,t638⟩:S74)]):List (S74))=y641 at H
     have Ny641:=zM hy641.symm
     clear hy641
     replace H:=zO H
     obtain ⟨⟨t645,t648,t651,t652⟩,A26,H⟩:=H
     try dsimp only at H
     generalize hy654:((x9_1.set ((rd l2 x10_1):Int).toNat (⟨t648,t651,t652⟩:S72)):List (S72))=y654 at H
     have Ny654:=zM hy654.symm
     clear hy654
     have H':=zM H
     clear H
     obtain ⟨p631,q631,ad631,e631,hx631_0⟩:=zRd (Kd.at_int HR2.1 x10_1)
     cases e631
     replace hx631_0:=zHx HB.1 hx631_0
     obtain ⟨Ao28,co28,eo28⟩:=Kd.N_slice HO_9.1
     subst eo28
     go_wp2_with (first|((with_reducible refine zG Try.func46 42 #[.int .i64 (rd l2 x10_1),.int .i64 0,.int .i64 (wrap64 ((x9_1.length:Int)-1))] ?_);(with_reducible refine (spec_l1In.calls (rd l2 x10_1) 0 (wrap64 ((x9_1.length:Int)-1)) true _ A19.1).mono ?_);rintro e w' ⟨rfl,⟨nd,rfl⟩⟩;refine ⟨_,rfl,?_⟩;(try (rw [drewN_self wc];generalize hq_:World.drewN wc _=wc;have n0_:Aside0 (Kd.R k74 74 wc w.heap.size (fun k_=>(w.heap.size≤k_)) u7 x7_1):=⟨by rw [←hq_];exact (zR HO_7.1)⟩;have n1_:Aside0 (Kd.R (Kd.int .i64) 3 wc w.heap.size (fun k_=>(w.heap.size≤k_)) u8 x8_1):=⟨by rw [←hq_];exact (zR HO_8.1)⟩;have n2_:Aside0 (Kd.N k72 72 wc w.heap.size (fun k_=>(P1_ k_∨w.heap.size≤k_)∧some k_≠(u7:Value).ownBlock∧some k_≠(u8:Value).ownBlock) (.slice Ao28 x9_1.length co28) x9_1):=⟨by rw [←hq_];exact (by refine zrN ?_;exact HO_9.1)⟩;have n3_:Aside0 (Below w.heap.size w wc):=⟨by rw [←hq_];exact zB3⟩;clear HO_7 HO_8 HO_9 HB hq_;have HO_7:=n0_;have HO_8:=n1_;have HO_9:=n2_;have HB:=n3_;clear n0_ n1_ n2_ n3_));have p633:0≤((rd l2 x10_1):Int):=zA;have q633:(rd l2 x10_1)<(x9_1.length:Int):=zA;obtain ⟨ad633,A633_0,c633_0,e633,hx633_0,hx633_1,hx633_2,hl633_0,hi633_0⟩:=at_T72 (Kd.N_reads' HO_9.1).2.2 (rd l2 x10_1) p633 q633;cases e633;obtain ⟨ce633,hce633,hMe633,hcc633⟩:=Kd.N_get HO_9.1 z72 (rd l2 x10_1) p633 (by first|exact q633|exact zA|(have e_:=(Kd.N_reads' HO_9.1).1;omega));obtain ⟨ua633_0,uc633_0,rfl,ul633_0,ge633_0⟩:=k72_openF hMe633;have hv633_0:=hcc633 0 _ rfl;rw [Nat.add_zero] at hv633_0;replace hv633_0:=Option.some.inj (hv633_0.symm.trans hx633_0);injection hv633_0 with hva_ hvn_ hvc_;rw [hva_] at ge633_0;rw [hvc_] at ul633_0;have HL633_0:=zM (show Kd.V (Kd.int .i64) 3 _ w.heap.size _ _ ((rd_T72 x9_1 (rd l2 x10_1)).f0) from Kd.V_mk ul633_0 ge633_0);clear hva_ hvn_ hvc_ ge633_0 ul633_0;clear hcc633 hce633;have HR633_0:=zM hi633_0;have HC633_0:=zM hl633_0;clear hi633_0 hl633_0;replace p633:=eq_true p633;replace q633:=eq_true q633;obtain ⟨Ao29,co29,eo29⟩:=Kd.R_slice HO_8.1;subst eo29)|((with_reducible refine zG Try.func81 51 #[.slice Ao29 x8_1.length co29,.agg #[.slice A633_0 ((rd_T72 x9_1 (rd l2 x10_1)).f0).length c633_0,.int .i64 ((rd_T72 x9_1 (rd l2 x10_1)).f1),.int .i64 ((rd_T72 x9_1 (rd l2 x10_1)).f2)],.int .i64 (rd l2 x10_1)] ?_);(with_reducible refine (spec_EventOf.calls kj13 _ _ x8_1 _ _ ((rd_T72 x9_1 (rd l2 x10_1)).f0) ((rd_T72 x9_1 (rd l2 x10_1)).f1) ((rd_T72 x9_1 (rd l2 x10_1)).f2) (rd l2 x10_1) t634 t635 t636 t637 t638 true _ ?side1 ?side2 ?side3 ?side4 A23.1).mono ?_);(case side1=>exact zC (Kd.R_reads' HO_8.1).2.2);(case side2=>exact (Kd.R_reads' HO_8.1).2.1);(case side3=>exact zC HR633_0.1);(case side4=>exact HC633_0.1);rintro e w30 ⟨rfl,hb⟩;refine ⟨_,rfl,?_⟩;have n0_:=zM (Kd.R_below (zR HO_7.1) hb);have n1_:=zM (Kd.R_below (zR HO_8.1) hb);have n2_:=zM (Kd.N_below (by refine zrN ?_;exact HO_9.1) hb);have n3_:=zM (Kd.V_below (by refine zrV ?_;exact HL633_0.1) hb);have n5_:=zM (below_step zB3 hb);clear HO_7;clear HO_8;clear HO_9;clear HL633_0;clear HB;have HO_7:=n0_;have HO_8:=n1_;have HO_9:=n2_;have HL633_0:=n3_;have HB:=n5_;clear n0_ n1_ n2_ n3_ n5_;clear hb)|((with_reducible refine gate_dst (N:=12) rfl ?_);(try (refine gate_guard (by rfl) ?_;dsimp only));(with_reducible refine zBx 12 74 #[.int .i64 0,.int .i64 0,.int .i64 0,.int .i64 0,.int .i64 0] ?_);intro gb640 hg w31 hbox hb;have n0_:=zM (Kd.R_below (Kd.R_elderB (zR HO_7.1) gb640 (Nat.le_of_eq hg.symm)) hb);have n1_:=zM (Kd.R_below (zR HO_8.1) hb);have n2_:=zM (Kd.N_below (Kd.N_elderB (by refine zrN ?_;exact HO_9.1) gb640 (Nat.le_of_eq hg.symm)) hb);have n3_:=zM (Kd.V_below (Kd.V_elderB (by refine zrV ?_;exact HL633_0.1) gb640 (Nat.le_of_eq hg.symm)) hb);have n5_:=zM (below_step zB3 hb);have n6_:=zM hbox;have n7_:=zM (zW hg (below_size zB3));have n8_:=zM (zW hg (below_size zB3));clear HO_7;clear HO_8;clear HO_9;clear HL633_0;clear HB;have HO_7:=n0_;have HO_8:=n1_;have HO_9:=n2_;have HL633_0:=n3_;have HB:=n5_;have BK640:=n6_;have GW640:=n7_;have GE640:=n8_;clear n0_ n1_ n2_ n3_ n5_ n6_ n7_ n8_;clear hb hbox hg;have hcz32:=zc_5 (w:=w31) BK640.1)|((with_reducible refine gate_builtin (b:= .append) (xs:=#[.tmp 55,.tmp 57]) rfl ?_);(try (refine gate_guard (by rfl) ?_;dsimp only));at_builtin;refine Kd.R_append k74 (w0:=w) w.heap.size rfl (.tmp 55) (.tmp 57) 28 74 (.agg #[(.int .i64 0),(.int .i64 0),(.int .i64 0),(.int .i64 0),(.int .i64 0)]) 40 rfl Try.underlying28 info74 rfl (by decide) (by omega) u7 x7_1 (⟨t634,t635,t636,t637,t638⟩:S74) [.int .i64 t634,.int .i64 t635,.int .i64 t636,.int .i64 t637,.int .i64 t638] (fun k_=>(w.heap.size≤k_)∧k_≠gb640) (fun _=>False) rfl (by first|(go_simp;done)|(go_simp;rfl)) ?aP (fun _ hk=>hk.elim) ?aF ?aO ?aB ?aS ?aL ?_;(case aP=>exact k74_mkM _ _ _ (⟨t634,t635,t636,t637,t638⟩:S74));(case aB=>exact zB3);(case aF=>exact (fun k_ hk=>⟨(Nat.le_trans (below_size zB3) hk),Kd.freshB (g:=gb640) (o:= .cells #[.int .i64 t634,.int .i64 t635,.int .i64 t636,.int .i64 t637,.int .i64 t638] 74 (0,0)) (by exact zp5 (zK BK640.1)) k_ hk⟩));(case aO=>exact (by refine zrR ?_;exact Kd.R_mono (zfR (zfR (zfR (zfR (zfR (Kd.R_mono HO_7.1 (fun k_ hk=>(⟨hk,hk.2⟩:_∧k_≠gb640)))))))) (fun _ hk=>⟨hk.1.1,hk.1.2⟩)));(case aS=>exact (below_size zB3));(case aL=>have:=LMc25.out;omega);intro v642 w33 ho hb hg hat;rw [←Ny641.1] at ho;replace HO_8:=zM (Kd.R_over' (by refine zrR ?_;exact (Kd.R_mono (zfR (zfR (zfR (zfR (zfR (Kd.R_types HO_8.1 BK640.1 (by decide))))))) (fun _ h_=>h_.1))) (Kd.R_typed (by refine zrR ?_;exact (Kd.R_mono (zfR (zfR (zfR (zfR (zfR (Kd.R_mono HO_7.1 (fun k_ hk=>(⟨hk,hk.2⟩:_∧k_≠gb640)))))))) (fun _ h_=>h_.1)))) (by decide) hg);replace HO_9:=zM (Kd.N_afterv (ok:=(fun k_=>(P1_ k_∨w.heap.size≤k_)∧some k_≠(.slice Ao29 x8_1.length co29:Value).ownBlock∧k_≠gb640)) (by refine zrN ?_;exact Kd.N_mono (zfN (zfN (zfN (zfN (zfN (Kd.N_mono HO_9.1 (fun k_ hk=>(⟨hk,hk.2⟩:_∧k_≠gb640)))))))) (fun _ hk=>⟨⟨hk.1.1.1,⟨hk.1.1.2.2,hk.1.2⟩⟩,hk.1.1.2.1⟩)) hg hat);replace HL633_0:=zM (Kd.V_afterv (ok:=(fun k_=>(P1_ k_∨w.heap.size≤k_)∧some k_≠(.slice Ao29 x8_1.length co29:Value).ownBlock∧some k_≠(.slice (some ad633) x9_1.length co28:Value).ownBlock∧k_≠gb640)) (by refine zrV ?_;exact Kd.V_mono (zfV (zfV (zfV (zfV (zfV (Kd.V_mono HL633_0.1 (fun k_ hk=>(⟨hk,hk.2⟩:_∧k_≠gb640)))))))) (fun _ hk=>⟨⟨hk.1.1.1.1,⟨hk.1.1.1.2.2,⟨hk.1.1.2,hk.1.2⟩⟩⟩,hk.1.1.1.2.1⟩)) hg hat);replace BK640:=zM (blk_grown (g:=gb640) (o:= .cells #[.int .i64 t634,.int .i64 t635,.int .i64 t636,.int .i64 t637,.int .i64 t638] 74 (0,0)) (by exact zp5 (zK BK640.1)) hg (Kd.R_away HO_7.1 (fun _ hk=>hk.2)));replace HB:=zM hb;have HO643:=zM ho;clear HO_7;clear ho hb hg hat;have p644:0≤((rd l2 x10_1):Int):=zA;have q644:(rd l2 x10_1)<(x9_1.length:Int):=zA;obtain ⟨ad644,A644_0,c644_0,e644,hx644_0,hx644_1,hx644_2,hl644_0,hi644_0⟩:=at_T72 (Kd.N_reads' HO_9.1).2.2 (rd l2 x10_1) p644 q644;obtain rfl:ad633=ad644:=(by injection e644);obtain ⟨ce644,hce644,hMe644,hcc644⟩:=Kd.N_get HO_9.1 z72 (rd l2 x10_1) p644 (by first|exact q644|exact zA|(have e_:=(Kd.N_reads' HO_9.1).1;omega));obtain ⟨ua644_0,uc644_0,rfl,ul644_0,ge644_0⟩:=k72_openF hMe644;have hv644_0:=hcc644 0 _ rfl;rw [Nat.add_zero] at hv644_0;replace hv644_0:=Option.some.inj (hv644_0.symm.trans hx644_0);injection hv644_0 with hva_ hvn_ hvc_;rw [hva_] at ge644_0;rw [hvc_] at ul644_0;have HL644_0:=zM (show Kd.V (Kd.int .i64) 3 _ w.heap.size _ _ ((rd_T72 x9_1 (rd l2 x10_1)).f0) from Kd.V_mk ul644_0 ge644_0);clear hva_ hvn_ hvc_ ge644_0 ul644_0;clear hcc644 hce644;have HR644_0:=zM hi644_0;have HC644_0:=zM hl644_0;clear hi644_0 hl644_0;replace p644:=eq_true p644;replace q644:=eq_true q644)|((with_reducible refine zG Try.func82 65 #[.slice Ao29 x8_1.length co29,.agg #[.slice A644_0 ((rd_T72 x9_1 (rd l2 x10_1)).f0).length c644_0,.int .i64 ((rd_T72 x9_1 (rd l2 x10_1)).f1),.int .i64 ((rd_T72 x9_1 (rd l2 x10_1)).f2)]] ?_);(with_reducible refine (spec_FlatStep.calls kj13 _ _ x8_1 _ _ ((rd_T72 x9_1 (rd l2 x10_1)).f0) ((rd_T72 x9_1 (rd l2 x10_1)).f1) ((rd_T72 x9_1 (rd l2 x10_1)).f2) t645 t648 t651 t652 _ ?side1 ?side2 ?side3 ?side4 A26.1).mono ?_);(case side1=>exact zC (Kd.R_reads' HO_8.1).2.2);(case side2=>exact (Kd.R_reads' HO_8.1).2.1);(case side3=>exact zC HR644_0.1);(case side4=>exact HC644_0.1);rintro e w34 ⟨v646,v649,rfl,ho0,ho1,hb⟩;refine ⟨_,rfl,?_⟩;replace HO_9:=zM (Kd.N_mono (Kd.N_told (Kd.N_told (Kd.N_old (by refine zrN ?_;exact HO_9.1) hb) (Kd.R_base ho0)) (Kd.R_base ho1)) (fun _ h_=>h_.1));replace HL633_0:=zM (Kd.V_mono (Kd.V_told (Kd.V_told (Kd.V_old (by refine zrV ?_;exact HL633_0.1) hb) (Kd.R_base ho0)) (Kd.R_base ho1)) (fun _ h_=>h_.1));replace HO643:=zM (Kd.R_below (zR HO643.1) hb);replace HL644_0:=zM (Kd.V_mono (Kd.V_told (Kd.V_told (Kd.V_old (by refine zrV ?_;exact HL644_0.1) hb) (Kd.R_base ho0)) (Kd.R_base ho1)) (fun _ h_=>h_.1));have HO647:=zM (Kd.R_lower (Kd.R_new' (Kd.R_newM (M:=fun k_=>(w.heap.size≤k_)) ho0 (below_size zB3) (fun k_ h_=>h_)) (Kd.R_lt (zR HO_8.1))) (below_size zB3));have HO650:=zM (Kd.R_lower (Kd.R_new' (Kd.R_newM (M:=fun k_=>(w.heap.size≤k_)) ho1 (below_size zB3) (fun k_ h_=>h_)) (Kd.R_lt (zR HO_8.1))) (below_size zB3));replace HO_8:=zM (Kd.R_mono (Kd.R_told (Kd.R_told (Kd.R_old (zR HO_8.1) hb) (Kd.R_base ho0)) (Kd.R_base ho1)) (fun _ h_=>h_.1));replace BK640:=zM (zb BK640.1 hb);replace HR644_0:=zM (Kd.C_below (zC HR644_0.1) hb);replace HB:=zM (below_step zB3 hb);clear hb ho0 ho1)|((with_reducible refine gate_dst (N:=15) rfl ?_);(try (refine gate_guard (by rfl) ?_;dsimp only));(with_reducible refine zBx 15 72 #[.slice none 0 0,.int .i64 0,.int .i64 0] ?_);intro gb653 hg w35 hbox hb;replace HO_8:=zM (Kd.R_below (zR HO_8.1) hb);replace HO_9:=zM (Kd.N_below (Kd.N_elderB (by refine zrN ?_;exact HO_9.1) gb653 (Nat.le_of_eq hg.symm)) hb);replace HL633_0:=zM (Kd.V_below (Kd.V_elderB (by refine zrV ?_;exact HL633_0.1) gb653 (Nat.le_of_eq hg.symm)) hb);replace HO643:=zM (Kd.R_below (zR HO643.1) hb);replace HL644_0:=zM (Kd.V_below (Kd.V_elderB (by refine zrV ?_;exact HL644_0.1) gb653 (Nat.le_of_eq hg.symm)) hb);replace HO647:=zM (Kd.R_below (zR HO647.1) hb);replace HO650:=zM (Kd.R_below (zR HO650.1) hb);replace HR644_0:=zM (Kd.C_below (zC HR644_0.1) hb);have BK653:=zM hbox;have GW653:=zM (zW hg (below_size zB3));have GE653:=zM (zW hg (below_size zB3));replace HB:=zM (below_step zB3 hb);have NB640_653:=zM ((zn BK640.1 hg:gb640≠gb653));have NB653_640:=zM ((zm BK640.1 hg:gb653≠gb640));replace BK640:=zM (zb BK640.1 hb);clear hb hbox hg;obtain ⟨Ao36,co36,eo36⟩:=Kd.R_slice HO650.1;subst eo36;have hnb37:=NB653_640.1;have hnc37:=NB640_653.1;have hcz38:=zc_3 (w:=w35) BK653.1)|((with_reducible refine gate_store (t:=72) (p:=15) rfl ?_);refine store_event (t:=72) (p:=15) (v:=?vo_w39) (w1:=(((w35.setCell ⟨gb653,0,none⟩ (.slice Ao36 t648.length co36)).setCell ⟨gb653,1,none⟩ (.int .i64 t651)).setCell ⟨gb653,2,none⟩ (.int .i64 t652))) ?hg ?ho ?hn ?hr ?_;(case ho=>rfl);(case hg=>rfl);(case hn=>rfl);(case hr=>exact zHH);intro w39 hw;have n0_:Aside0 (Kd.R (Kd.int .i64) 3 w39 w.heap.size (fun k_=>(w.heap.size≤k_)∧some k_≠(v646:Value).ownBlock∧some k_≠(.slice Ao36 t648.length co36:Value).ownBlock) (.slice Ao29 x8_1.length co29) x8_1):=⟨(by rw [hw];exact (by refine zrR ?_;exact Kd.R_mono (zfR (zfR (zfR (Kd.R_types HO_8.1 BK653.1 (by decide))))) (fun _ hk=>⟨hk.1.1.1,⟨hk.1.1.2,hk.1.2⟩⟩)))⟩;have n1_:Aside0 (Kd.N k72 72 w39 w.heap.size (fun k_=>(P1_ k_∨w.heap.size≤k_)∧some k_≠(.slice Ao29 x8_1.length co29:Value).ownBlock∧some k_≠(v642:Value).ownBlock∧some k_≠(v646:Value).ownBlock∧some k_≠(.slice Ao36 t648.length co36:Value).ownBlock∧k_≠gb640∧k_≠gb653) (.slice (some ad633) x9_1.length co28) x9_1):=⟨(by rw [hw];exact (by refine zrN ?_;exact Kd.N_mono (zfN (zfN (zfN (Kd.N_mono HO_9.1 (fun k_ hk=>(⟨hk,hk.2⟩:_∧k_≠gb653)))))) (fun _ hk=>⟨hk.1.1.1.1.1.1,⟨hk.1.1.1.1.1.2.1,⟨hk.1.1.1.1.2,⟨hk.1.1.1.2,⟨hk.1.1.2,⟨hk.1.1.1.1.1.2.2,hk.1.2⟩⟩⟩⟩⟩⟩)))⟩;have n2_:Aside0 (Kd.V (Kd.int .i64) 3 w39 w.heap.size (fun k_=>(P1_ k_∨w.heap.size≤k_)∧some k_≠(.slice Ao29 x8_1.length co29:Value).ownBlock∧some k_≠(.slice (some ad633) x9_1.length co28:Value).ownBlock∧some k_≠(v642:Value).ownBlock∧some k_≠(v646:Value).ownBlock∧some k_≠(.slice Ao36 t648.length co36:Value).ownBlock∧k_≠gb640∧k_≠gb653) (.slice A633_0 ((rd_T72 x9_1 (rd l2 x10_1)).f0).length c633_0) ((rd_T72 x9_1 (rd l2 x10_1)).f0)):=⟨(by rw [hw];exact (by refine zrV ?_;exact Kd.V_mono (zfV (zfV (zfV (Kd.V_mono HL633_0.1 (fun k_ hk=>(⟨hk,hk.2⟩:_∧k_≠gb653)))))) (fun _ hk=>⟨hk.1.1.1.1.1.1,⟨hk.1.1.1.1.1.2.1,⟨hk.1.1.1.1.1.2.2.1,⟨hk.1.1.1.1.2,⟨hk.1.1.1.2,⟨hk.1.1.2,⟨hk.1.1.1.1.1.2.2.2,hk.1.2⟩⟩⟩⟩⟩⟩⟩)))⟩;have n3_:Aside0 (Kd.R k74 74 w39 w.heap.size (fun k_=>(w.heap.size≤k_)∧k_≠gb640) v642 y641):=⟨(by rw [hw];exact (by refine zrR ?_;exact Kd.R_mono (zfR (zfR (zfR (Kd.R_types HO643.1 BK653.1 (by decide))))) (fun _ hk=>⟨hk.1.1,hk.1.2⟩)))⟩;have n4_:Aside0 (Kd.V (Kd.int .i64) 3 w39 w.heap.size (fun k_=>(P1_ k_∨w.heap.size≤k_)∧some k_≠(.slice Ao29 x8_1.length co29:Value).ownBlock∧some k_≠(.slice (some ad633) x9_1.length co28:Value).ownBlock∧some k_≠(v642:Value).ownBlock∧some k_≠(v646:Value).ownBlock∧some k_≠(.slice Ao36 t648.length co36:Value).ownBlock∧k_≠gb640∧k_≠gb653) (.slice A644_0 ((rd_T72 x9_1 (rd l2 x10_1)).f0).length c644_0) ((rd_T72 x9_1 (rd l2 x10_1)).f0)):=⟨(by rw [hw];exact (by refine zrV ?_;exact Kd.V_mono (zfV (zfV (zfV (Kd.V_mono HL644_0.1 (fun k_ hk=>(⟨hk,hk.2⟩:_∧k_≠gb653)))))) (fun _ hk=>⟨hk.1.1.1.1.1.1.1,⟨hk.1.1.1.1.1.1.2.1,⟨hk.1.1.1.1.2,⟨hk.1.1.1.1.1.2,⟨hk.1.1.1.2,⟨hk.1.1.2,⟨hk.1.1.1.1.1.1.2.2,hk.1.2⟩⟩⟩⟩⟩⟩⟩)))⟩;have n5_:Aside0 (Kd.R (Kd.int .i64) 3 w39 w.heap.size (fun k_=>(w.heap.size≤k_)∧some k_≠(.slice Ao29 x8_1.length co29:Value).ownBlock∧some k_≠(.slice Ao36 t648.length co36:Value).ownBlock) v646 t645):=⟨(by rw [hw];exact (by refine zrR ?_;exact Kd.R_mono (zfR (zfR (zfR (Kd.R_types HO647.1 BK653.1 (by decide))))) (fun _ hk=>⟨hk.1.1.1,⟨hk.1.2,hk.1.1.2⟩⟩)))⟩;have n6_:Aside0 (Kd.R (Kd.int .i64) 3 w39 w.heap.size (fun k_=>(w.heap.size≤k_)∧some k_≠(.slice Ao29 x8_1.length co29:Value).ownBlock∧some k_≠(v646:Value).ownBlock) (.slice Ao36 t648.length co36) t648):=⟨(by rw [hw];exact (by refine zrR ?_;exact Kd.R_mono (zfR (zfR (zfR (Kd.R_types HO650.1 BK653.1 (by decide))))) (fun _ hk=>⟨hk.1.1.1,⟨hk.1.2,hk.1.1.2⟩⟩)))⟩;have n7_:Aside0 (w39.heap[gb640]? =some (.cells #[.int .i64 t634,.int .i64 t635,.int .i64 t636,.int .i64 t637,.int .i64 t638] 74 (0,0))):=⟨(by rw [hw];exact zPq)⟩;have n8_:Aside0 (w39.heap[gb653]? =some (.cells #[.slice Ao36 t648.length co36,.int .i64 t651,.int .i64 t652] 72 (0,0))):=⟨(by rw [hw];exact (by exact zp3 (zK BK653.1)))⟩;have n9_:Aside0 (Below w.heap.size w w39):=⟨(by rw [hw];exact zB3)⟩;clear hw;clear HO_8;clear HO_9;clear HL633_0;clear HO643;clear HL644_0;clear HO647;clear HO650;clear BK640;clear BK653;clear HB;have HO_8:=n0_;have HO_9:=n1_;have HL633_0:=n2_;have HO643:=n3_;have HL644_0:=n4_;have HO647:=n5_;have HO650:=n6_;have BK640:=n7_;have BK653:=n8_;have HB:=n9_;clear n0_ n1_ n2_ n3_ n4_ n5_ n6_ n7_ n8_ n9_;have hcz40:=zc_3 (w:=w39) BK653.1;have p27:0≤((rd l2 x10_1):Int):=zA;have q27:((rd l2 x10_1):Int)<((x9_1.length:Int):Int):=zA;obtain ⟨go27,co27,eo27,gb27,gl27,cl27,HG27⟩:=Kd.N_form HO_9.1 (by omega);(first|cases eo27|(injection eo27 with ea_ en_ ec_;(first|subst ea_|(injection ea_ with ea_;subst ea_));subst ec_;clear en_));have GB27:=zM gb27;have GG27:=zM HG27;clear gb27 gl27 HG27;(first|simp only [add_plain] at hx633_0|skip);(first|simp only [add_plain] at hx633_1|skip);(first|simp only [add_plain] at hx633_2|skip);(first|simp only [add_plain] at hx644_0|skip);(first|simp only [add_plain] at hx644_1|skip);(first|simp only [add_plain] at hx644_2|skip);obtain ⟨ce27,hcl27,hM27,hcc27,hfr27⟩:=Kd.N_elem HO_9.1 z72 ((rd l2 x10_1):Int) p27 q27;obtain ⟨ua27_0,uc27_0,rfl,ul27_0,ge27_0⟩:=k72_openF hM27;have hx27_0:w39.cell? ⟨go27,((rd l2 x10_1):Int).toNat*3,none⟩=some (.slice ua27_0 ((rd_T72 x9_1 (rd l2 x10_1)).f0).length uc27_0):=hcc27 0 _ rfl;have hx27_1:w39.cell? ⟨go27,((rd l2 x10_1):Int).toNat*3+1,none⟩=some (.int .i64 ((rd_T72 x9_1 (rd l2 x10_1)).f1)):=hcc27 1 _ rfl;have hx27_2:w39.cell? ⟨go27,((rd l2 x10_1):Int).toNat*3+2,none⟩=some (.int .i64 ((rd_T72 x9_1 (rd l2 x10_1)).f2)):=hcc27 2 _ rfl;have hf27_0:w39.frozen? ⟨go27,((rd l2 x10_1):Int).toNat*3,none⟩=false:=hfr27 0;have hf27_1:w39.frozen? ⟨go27,((rd l2 x10_1):Int).toNat*3+1,none⟩=false:=hfr27 1;have hf27_2:w39.frozen? ⟨go27,((rd l2 x10_1):Int).toNat*3+2,none⟩=false:=hfr27 2;clear hcl27 hcc27 hfr27 hM27;replace p27:=eq_true p27;replace q27:=eq_true q27;have HX41:=zM (show Kd.N k72 72 w39 w.heap.size (fun k_=>(P1_ k_∨w.heap.size≤k_)∧some k_≠(.slice Ao29 x8_1.length co29:Value).ownBlock∧some k_≠(v642:Value).ownBlock∧some k_≠(v646:Value).ownBlock∧k_≠gb640∧k_≠gb653) (.slice (some ⟨go27,0,none⟩) x9_1.length co28) x9_1 from (by refine zrN ?_;exact Kd.N_mono HO_9.1 (fun _ hk=>⟨hk.1,⟨hk.2.1,⟨hk.2.2.1,⟨hk.2.2.2.1,⟨hk.2.2.2.2.2.1,hk.2.2.2.2.2.2⟩⟩⟩⟩⟩)));obtain ⟨ce41,hcl41,hM41,hcc41,hfr41⟩:=Kd.N_elem HX41.out z72 ((rd l2 x10_1):Int) zA (by have h_:((rd l2 x10_1):Int)<((x9_1.length:Int):Int):=zA;first|exact h_|(have e_:=(Kd.N_reads' HO_9.1).1;omega)|simpa using h_);obtain ⟨ua41_0,uc41_0,rfl,ul41_0,ge41_0⟩:=k72_openF hM41;have HP41:=Kd.N_seg HX41.out ((rd l2 x10_1):Int) zA (by have h_:((rd l2 x10_1):Int)<((x9_1.length:Int):Int):=zA;first|exact h_|(have e_:=(Kd.N_reads' HO_9.1).1;omega)|simpa using h_) (seg:=[.slice Ao36 t648.length co36,.int .i64 t651,.int .i64 t652]) (j:=0) hcl41 hcc41 (show 3≤3 from by decide) (x':=(⟨t648,t651,t652⟩:S72)) (k72_mkF _ _ (⟨t648,t651,t652⟩:S72) (Kd.R_reads' (Kd.R_mono (ok':=(fun k_=>((fun k_=>(P1_ k_∨w.heap.size≤k_)∧some k_≠(.slice Ao29 x8_1.length co29:Value).ownBlock∧some k_≠(v642:Value).ownBlock∧some k_≠(v646:Value).ownBlock∧k_≠gb640∧k_≠gb653)) k_∧k_≠go27)) (Kd.R_types (Kd.R_types (Kd.R_apart' (Kd.R_apart' (HO650.1) (Kd.R_typed HO643.1) (by decide)) (Kd.N_typed HO_9.1) (by decide)) BK640.1 (by decide)) BK653.1 (by decide)) (fun k_ hk=>⟨⟨(.inr (hk.1.1.1.1.1)),⟨hk.1.1.1.1.2.1,⟨hk.1.1.1.2,⟨hk.1.1.1.1.2.2,⟨hk.1.2,hk.2⟩⟩⟩⟩⟩,fun e_=>(hk.1.1.2) (by rw [e_];rfl)⟩))).2.1 (Kd.R_F (Kd.R_mono (ok':=(fun k_=>((fun k_=>(P1_ k_∨w.heap.size≤k_)∧some k_≠(.slice Ao29 x8_1.length co29:Value).ownBlock∧some k_≠(v642:Value).ownBlock∧some k_≠(v646:Value).ownBlock∧k_≠gb640∧k_≠gb653)) k_∧k_≠go27)) (Kd.R_types (Kd.R_types (Kd.R_apart' (Kd.R_apart' (HO650.1) (Kd.R_typed HO643.1) (by decide)) (Kd.N_typed HO_9.1) (by decide)) BK640.1 (by decide)) BK653.1 (by decide)) (fun k_ hk=>⟨⟨(.inr (hk.1.1.1.1.1)),⟨hk.1.1.1.1.2.1,⟨hk.1.1.1.2,⟨hk.1.1.1.1.2.2,⟨hk.1.2,hk.2⟩⟩⟩⟩⟩,fun e_=>(hk.1.1.2) (by rw [e_];rfl)⟩)))) (fun _ hk=>hk);have hx41_0:=hcc41 0 _ rfl;(try simp only [show (k72).sz=3 from rfl,Nat.mul_one,Nat.add_zero] at hx41_0);have hf41_0:=hfr41 0;(try simp only [show (k72).sz=3 from rfl,Nat.mul_one,Nat.add_zero] at hf41_0);have hx41_1:=hcc41 1 _ rfl;(try simp only [show (k72).sz=3 from rfl,Nat.mul_one,Nat.add_zero] at hx41_1);have hf41_1:=hfr41 1;(try simp only [show (k72).sz=3 from rfl,Nat.mul_one,Nat.add_zero] at hf41_1);have hx41_2:=hcc41 2 _ rfl;(try simp only [show (k72).sz=3 from rfl,Nat.mul_one,Nat.add_zero] at hx41_2);have hf41_2:=hfr41 2;(try simp only [show (k72).sz=3 from rfl,Nat.mul_one,Nat.add_zero] at hf41_2);clear hcl41 hcc41 hfr41 hM41)|((with_reducible refine gate_store (t:=72) (p:=72) rfl ?_);refine store_event (t:=72) (p:=72) (v:=?vo_w42) (w1:=(((w39.setCell ⟨go27,((rd l2 x10_1):Int).toNat*3,none⟩ (.slice Ao36 t648.length co36)).setCell ⟨go27,((rd l2 x10_1):Int).toNat*3+1,none⟩ (.int .i64 t651)).setCell ⟨go27,((rd l2 x10_1):Int).toNat*3+2,none⟩ (.int .i64 t652))) ?hg ?ho ?hn ?hr ?_;(case ho=>rfl);(case hg=>rfl);(case hn=>rfl);(case hr=>exact zHH);intro w42 hw;have hg:w39.grownBy w42 (some go27):=(by rw [hw];exact HP41.2);have hp_:Kd.N k72 72 w42 w.heap.size (fun k_=>(P1_ k_∨w.heap.size≤k_)∧some k_≠(.slice Ao29 x8_1.length co29:Value).ownBlock∧some k_≠(v642:Value).ownBlock∧some k_≠(v646:Value).ownBlock∧k_≠gb640∧k_≠gb653) (.slice (some ⟨go27,0,none⟩) x9_1.length co28) y654:=(by rw [hw,Ny654.1];exact HP41.1);clear HP41;replace HO_8:=zM (Kd.R_over' (v:=(.slice (some ⟨go27,0,none⟩) x9_1.length co28)) (zR HO_8.1) (Kd.N_typed HO_9.1) (by decide) hg);replace HL633_0:=zM (Kd.V_afterv (v:=(.slice (some ⟨go27,0,none⟩) x9_1.length co28)) (v1:=(.slice (some ⟨go27,0,none⟩) x9_1.length co28)) (ok:=(fun k_=>(P1_ k_∨w.heap.size≤k_)∧some k_≠(.slice Ao29 x8_1.length co29:Value).ownBlock∧some k_≠(v642:Value).ownBlock∧some k_≠(v646:Value).ownBlock∧some k_≠(.slice Ao36 t648.length co36:Value).ownBlock∧k_≠gb640∧k_≠gb653)) (by refine zrV ?_;exact Kd.V_mono HL633_0.1 (fun _ hk=>⟨⟨hk.1,⟨hk.2.1,⟨hk.2.2.2.1,⟨hk.2.2.2.2.1,⟨hk.2.2.2.2.2.1,⟨hk.2.2.2.2.2.2.1,hk.2.2.2.2.2.2.2⟩⟩⟩⟩⟩⟩,hk.2.2.1⟩)) hg (.inl rfl));replace BK640:=zM (zg BK640.1 hg (Kd.N_ne HO_9.1 BK640.1 (by decide)));replace HO643:=zM (Kd.R_over' (v:=(.slice (some ⟨go27,0,none⟩) x9_1.length co28)) (zR HO643.1) (Kd.N_typed HO_9.1) (by decide) hg);replace HL644_0:=zM (Kd.V_afterv (v:=(.slice (some ⟨go27,0,none⟩) x9_1.length co28)) (v1:=(.slice (some ⟨go27,0,none⟩) x9_1.length co28)) (ok:=(fun k_=>(P1_ k_∨w.heap.size≤k_)∧some k_≠(.slice Ao29 x8_1.length co29:Value).ownBlock∧some k_≠(v642:Value).ownBlock∧some k_≠(v646:Value).ownBlock∧some k_≠(.slice Ao36 t648.length co36:Value).ownBlock∧k_≠gb640∧k_≠gb653)) (by refine zrV ?_;exact Kd.V_mono HL644_0.1 (fun _ hk=>⟨⟨hk.1,⟨hk.2.1,⟨hk.2.2.2.1,⟨hk.2.2.2.2.1,⟨hk.2.2.2.2.2.1,⟨hk.2.2.2.2.2.2.1,hk.2.2.2.2.2.2.2⟩⟩⟩⟩⟩⟩,hk.2.2.1⟩)) hg (.inl rfl));replace HO647:=zM (Kd.R_over' (v:=(.slice (some ⟨go27,0,none⟩) x9_1.length co28)) (zR HO647.1) (Kd.N_typed HO_9.1) (by decide) hg);replace BK653:=zM (zg BK653.1 hg (Kd.N_away HO_9.1 (fun _ hk=>hk.2.2.2.2.2.2)));replace HO_9:=zM hp_;replace HB:=zM ((by rw [hw];exact below_set (below_set (below_set (HB.1) GB27.1) GB27.1) GB27.1:Below w.heap.size w w42));clear HO650;clear hg hw hp_))
     go_roundg kj13
     case measure=>have:=HK1.1;have:=HJ13.1;omega
     case rel=>exact ⟨(y641),(t645),(y654),(wrap64 (x10_1+1)),zJJ,H',⟨by have:=HK1.1;have:=HJ13.1;omega⟩,⟨by refine zrR ?_;exact Kd.R_mono HO643.1 (fun _ hk=>hk.1)⟩,⟨by refine zrR ?_;exact Kd.R_mono HO647.1 (fun _ hk=>hk.1)⟩,⟨by refine zrN ?_;exact Kd.N_mono HO_9.1 (fun _ hk=>⟨hk.1,⟨hk.2.2.1,hk.2.2.2.1⟩⟩)⟩,⟨zB3⟩⟩

/-! ### spec_l21DrawDid: function 44 -/
def spec_l21DrawDid.j0:Nat→List Int→Int→Int→Int→Int→Int→Option (Int×Int×Int×Int×Int)
 |0,_,_,_,_,_,_=>none
 |k+1,x1000,x1001,x1002,x671000,x671001,x671002=>(spec_l1Once.f x1000 x1001 x1002 12).bind fun bt680=>(if bt680.1=true then ((spec_l1PickInt.f x1000 bt680.2.1 bt680.2.2 (([(-1),24]:List Int))).bind fun bt686=>(some (bt686.1,x671001,x671002,bt686.2.1,bt686.2.2))) else (some (x671000,x671001,x671002,bt680.2.1,bt680.2.2)))
def spec_l21DrawDid.f (k:Nat) (s0_0:List Int) (s0_1:Int) (s0_2:Int):Option (Int×Int×Int×Int×Int):=(spec_l1Below.f s0_0 s0_1 s0_2 2).bind fun bt667=>((spec_l1Once.f s0_0 bt667.2.1 bt667.2.2 2).bind fun bt671=>(if bt671.1=true then ((spec_l1Below.f s0_0 bt671.2.1 bt671.2.2 3).bind fun bt674=>(spec_l21DrawDid.j0 k s0_0 bt674.2.1 bt674.2.2 bt667.1 bt674.1 (-1))) else ((spec_l1Below.f s0_0 bt671.2.1 bt671.2.2 2).bind fun bt677=>(spec_l21DrawDid.j0 k s0_0 bt677.2.1 bt677.2.2 bt667.1 (-1) (wrap64 (1+bt677.1))))))
theorem spec_l21DrawDid.mono_l: ∀k,(∀y0 y1 y2 y3 y4 y5,LeO (spec_l21DrawDid.j0 k y0 y1 y2 y3 y4 y5) (spec_l21DrawDid.j0 (k+1) y0 y1 y2 y3 y4 y5))
 |0=>fun _ _ _ _ _ _ r h=>by simp [spec_l21DrawDid.j0] at h
 |k+1=>by
  have ih0:=spec_l21DrawDid.mono_l k
  ·intros
   unfold spec_l21DrawDid.j0
   exact zL
theorem spec_l21DrawDid.mono: ∀a0 a1 a2 k,LeO (spec_l21DrawDid.f k a0 a1 a2) (spec_l21DrawDid.f (k+1) a0 a1 a2):=by
 intro a0 a1 a2 k
 have ih0:=spec_l21DrawDid.mono_l k
 unfold spec_l21DrawDid.f
 exact zL
theorem spec_l21DrawDid.calls (k:Nat) (g:Nat) (s0_0:List Int) (s0_1:Int) (s0_2:Int) (r1:Int) (r2:Int) (r3:Int) (r4:Int) (r5:Int) (w0 w:World) (hI:IsS104 w0 w g s0_0 s0_1 s0_2) (hB:Below w0.heap.size w0 w) (h:spec_l21DrawDid.f k s0_0 s0_1 s0_2=some (r1,r2,r3,r4,r5)):
  Calls Try.prog 44 #[.pointer (some ⟨g,0,none⟩)] w fun e w'=>e= .returned (.agg #[.int .i64 r1,.int .i64 r2,.int .i64 r3])∧IsS104 w0 w' g s0_0 r4 r5∧Below w0.heap.size w0 w'∧KeepBut w w' g none:=by
 have hu37:=Try.underlying37
 have HI0:=zM hI
 have HK:=zM (KeepBut.refl w g none)
 have HL:=zM hB.size
 clear hI
 have HW0:=zM hB.size
 have HB:=zM hB
 clear hB
 unfold spec_l21DrawDid.f at h
 have H:=h
 clear h
 replace H:=zO H
 obtain ⟨⟨t667,t668,t669⟩,A2,H⟩:=H
 try dsimp only at H
 replace H:=zO H
 obtain ⟨⟨t671,t672,t673⟩,A3,H⟩:=H
 try dsimp only at H
 have HC4:=zM H
 clear H
 go_enter Try.func44,Try.ntmps44
 go_upto_if 8 with (first|((with_reducible refine zBx 2 37 #[.int .i64 0,.int .i64 0,.int .i64 0] ?_);intro gb666 hg w5 hbox hb;replace HB:=zM (below_step zB1 hb);have BK666:=zM hbox;have GW666:=zM ((by rw [hg];exact (keep_size (w:=w) (g:=g) (row:=none) zB2):w.heap.size≤gb666));have GE666:=zM ((Nat.le_trans HW0.1 (by rw [hg];exact (keep_size (w:=w) (g:=g) (row:=none) zB2):w.heap.size≤gb666):w0.heap.size≤gb666));replace HK:=zM (KeepBut.trans zB2 (KeepBut.of_below hb g none) (.inl rfl));have NB0_666:=zM ((by rw [hg];exact Nat.ne_of_lt (IsS104.lt (show IsS104 w0 _ g s0_0 s0_1 s0_2 from zB0)):g≠gb666));have NB666_0:=zM ((by rw [hg];exact Nat.ne_of_gt (IsS104.lt (show IsS104 w0 _ g s0_0 s0_1 s0_2 from zB0)):gb666≠g));replace HI0:=zM (IsS104.below zB0 hb);clear hb hbox hg)|((with_reducible refine zG Try.func43 5 #[.pointer (some ⟨g,0,none⟩),.int .i64 2] ?_);(with_reducible refine (spec_l1Below.calls g s0_0 s0_1 s0_2 2 t667 t668 t669 w0 _ ?side1 ?side2 A2.1).mono ?_);(case side1=>exact zB90);(case side2=>exact zB1);rintro e w6 ⟨rfl,hi,hb,hk⟩;refine ⟨_,rfl,?_⟩;replace BK666:=zM (zh hk BK666.1 NB666_0.1);replace HK:=zM (KeepBut.trans zB2 hk (.inl rfl));replace HB:=zM hb;replace HI0:=zM hi;clear hb hk hi)|((with_reducible refine zBx 3 37 #[.int .i64 0,.int .i64 0,.int .i64 0] ?_);intro gb670 hg w7 hbox hb;replace HB:=zM (below_step zB1 hb);have BK670:=zM hbox;have GW670:=zM ((by rw [hg];exact (keep_size (w:=w) (g:=g) (row:=none) zB2):w.heap.size≤gb670));have GE670:=zM ((Nat.le_trans HW0.1 (by rw [hg];exact (keep_size (w:=w) (g:=g) (row:=none) zB2):w.heap.size≤gb670):w0.heap.size≤gb670));replace HK:=zM (KeepBut.trans zB2 (KeepBut.of_below hb g none) (.inl rfl));have NB666_670:=zM ((zn BK666.1 hg:gb666≠gb670));have NB670_666:=zM ((zm BK666.1 hg:gb670≠gb666));replace BK666:=zM (zb BK666.1 hb);have NB0_670:=zM ((by rw [hg];exact Nat.ne_of_lt (IsS104.lt (show IsS104 w0 _ g s0_0 t668 t669 from zB90)):g≠gb670));have NB670_0:=zM ((by rw [hg];exact Nat.ne_of_gt (IsS104.lt (show IsS104 w0 _ g s0_0 t668 t669 from zB90)):gb670≠g));replace HI0:=zM (IsS104.below zB90 hb);clear hb hbox hg;have hnb8:=NB670_666.1;have hnc8:=NB666_670.1;have hnb9:=NB670_0.1;have hnc9:=NB0_670.1;have hcz10:=zc_3 (w:=w7) BK670.1)|((with_reducible refine zG Try.func41 8 #[.pointer (some ⟨g,0,none⟩),.int .i64 2] ?_);(with_reducible refine (spec_l1Once.calls g s0_0 t668 t669 2 t671 t672 t673 w0 _ ?side1 ?side2 A3.1).mono ?_);(case side1=>exact zB93);(case side2=>exact zB1);rintro e w11 ⟨rfl,hi,hb,hk⟩;refine ⟨_,rfl,?_⟩;replace BK666:=zM (KeepBut.blk hk (g':=gb666) (o:= .cells #[.int .i64 0,.int .i64 0,.int .i64 0] 37 (0,0)) zPq NB666_0.1 (by simp));replace BK670:=zM (KeepBut.blk hk (g':=gb670) (o:= .cells #[.int .i64 t667,.int .i64 (-1),.int .i64 (-1)] 37 (0,0)) (by exact zp3 (zK BK670.1)) NB670_0.1 (by simp));replace HK:=zM (KeepBut.trans zB2 hk (.inl rfl));replace HB:=zM hb;replace HI0:=zM hi;clear hb hk hi))
 (try simp only [Act.put,List.setIfInBounds_toArray,List.set_cons_zero,List.set_cons_succ])
 go_cut [] (fun wc=>∃(kq:Nat) (x1001_3:Int) (x1002_3:Int) (x671001_3:Int) (x671002_3:Int),Aside0 (spec_l21DrawDid.j0 kq s0_0 x1001_3 x1002_3 t667 x671001_3 x671002_3=some (r1,r2,r3,r4,r5))∧Aside0 (kq≤k)∧Aside0 (wc.heap[gb666]? =some (.cells #[.int .i64 0,.int .i64 0,.int .i64 0] 37 (0,0)))∧Aside0 (wc.heap[gb670]? =some (.cells #[.int .i64 t667,.int .i64 x671001_3,.int .i64 x671002_3] 37 (0,0)))∧Aside0 (IsS104 w0 wc g s0_0 x1001_3 x1002_3)∧Aside0 (KeepBut w wc g none)∧Aside0 (Below w0.heap.size w0 wc))
 case first=>
  have H:=HC4.1
  clear HC4
  by_cases c12:t671=true
  ·subst c12
   rw [if_pos rfl] at H
   replace H:=zO H
   obtain ⟨⟨t674,t675,t676⟩,A13,H⟩:=H
   try dsimp only at H
   have H':=zM H
   clear H
   go_wp2_with (first|((with_reducible refine zG Try.func43 10 #[.pointer (some ⟨g,0,none⟩),.int .i64 3] ?_);(with_reducible refine (spec_l1Below.calls g s0_0 t672 t673 3 t674 t675 t676 w0 _ ?side1 ?side2 A13.1).mono ?_);(case side1=>exact zB93);(case side2=>exact zB1);rintro e w14 ⟨rfl,hi,hb,hk⟩;refine ⟨_,rfl,?_⟩;replace BK666:=zM (zh hk BK666.1 NB666_0.1);replace BK670:=zM (zh hk BK670.1 NB670_0.1);replace HK:=zM (KeepBut.trans zB2 hk (.inl rfl));replace HB:=zM hb;replace HI0:=zM hi;clear hb hk hi;have hnb15:=NB670_666.1;have hnc15:=NB666_670.1;have hnb16:=NB670_0.1;have hnc16:=NB0_670.1;have hcz17:=zc_3 (w:=w14) BK670.1))
   go_meet
   case rel=>exact ⟨_,(t675),(t676),(t674),((-1)),H',⟨by first|omega|exact Nat.le_refl _⟩,⟨by refine zP ?_;refine blk_far ?_ NB666_670.1 _;refine zP ?_;exact BK666.1⟩,⟨by refine zP ?_;refine blk_put (cs:=#[.int .i64 t667,.int .i64 (-1),.int .i64 (-1)]) ?_ 1 _ rfl;refine zP ?_;exact BK670.1⟩,⟨zB93⟩,⟨zB2⟩,⟨zB1⟩⟩
  replace c12:=Bool.eq_false_iff.mpr c12
  subst c12
  rw [if_neg zF] at H
  replace H:=zO H
  obtain ⟨⟨t677,t678,t679⟩,A18,H⟩:=H
  try dsimp only at H
  have H':=zM H
  clear H
  go_wp2_with (first|((with_reducible refine zG Try.func43 13 #[.pointer (some ⟨g,0,none⟩),.int .i64 2] ?_);(with_reducible refine (spec_l1Below.calls g s0_0 t672 t673 2 t677 t678 t679 w0 _ ?side1 ?side2 A18.1).mono ?_);(case side1=>exact zB93);(case side2=>exact zB1);rintro e w19 ⟨rfl,hi,hb,hk⟩;refine ⟨_,rfl,?_⟩;replace BK666:=zM (zh hk BK666.1 NB666_0.1);replace BK670:=zM (zh hk BK670.1 NB670_0.1);replace HK:=zM (KeepBut.trans zB2 hk (.inl rfl));replace HB:=zM hb;replace HI0:=zM hi;clear hb hk hi;have hnb20:=NB670_666.1;have hnc20:=NB666_670.1;have hnb21:=NB670_0.1;have hnc21:=NB0_670.1;have hcz22:=zc_3 (w:=w19) BK670.1))
  go_meet
  case rel=>exact ⟨_,(t678),(t679),((-1)),(wrap64 (1+t677)),H',⟨by first|omega|exact Nat.le_refl _⟩,⟨by refine zP ?_;refine blk_far ?_ NB666_670.1 _;refine zP ?_;exact BK666.1⟩,⟨by refine zP ?_;refine blk_put (cs:=#[.int .i64 t667,.int .i64 (-1),.int .i64 (-1)]) ?_ 2 _ rfl;refine zP ?_;exact BK670.1⟩,⟨zB93⟩,⟨zB2⟩,⟨zB1⟩⟩
 case rest=>
  clear HC4
  obtain ⟨kq,x1001_3,x1002_3,x671001_3,x671002_3,HA,HJ3,BK666,BK670,HI0,HK,HB⟩:=hcut
  cases kq with
  |zero=>exact absurd HA.1 (by simp [spec_l21DrawDid.j0])
  |succ kj3=>
   have H:=HA.1
   clear HA
   simp only [spec_l21DrawDid.j0] at H
   replace H:=zO H
   obtain ⟨⟨t680,t681,t682⟩,A23,H⟩:=H
   try dsimp only at H
   by_cases c24:t680=true
   rotate_left
   ·replace c24:=Bool.eq_false_iff.mpr c24
    subst c24
    rw [if_neg zF] at H
    simp only [Option.some.injEq,Prod.mk.injEq] at H
    obtain ⟨rfl,rfl,rfl,rfl,rfl⟩:=H
    go_wp2_with (first|((with_reducible refine zG Try.func41 17 #[.pointer (some ⟨g,0,none⟩),.int .i64 12] ?_);(with_reducible refine (spec_l1Once.calls g s0_0 x1001_3 x1002_3 12 false t681 t682 w0 _ ?side1 ?side2 A23.1).mono ?_);(case side1=>exact zB93);(case side2=>exact zB1);rintro e w36 ⟨rfl,hi,hb,hk⟩;refine ⟨_,rfl,?_⟩;replace BK666:=zM (zh hk BK666.1 NB666_0.1);replace BK670:=zM (zh hk BK670.1 NB670_0.1);replace HK:=zM (KeepBut.trans zB2 hk (.inl rfl));replace HB:=zM hb;replace HI0:=zM hi;clear hb hk hi;have hnb37:=NB670_666.1;have hnc37:=NB666_670.1;have hnb38:=NB670_0.1;have hnc38:=NB0_670.1;have hcz39:=zc_3 (w:=w36) BK670.1;have hnb40:=NB666_0.1;have hnc40:=NB0_666.1;have hcz41:=zc_3 (w:=w36) BK666.1))
    refine bodyPost_ret (results_cell_row rfl _ _ gb666 37 #[.int .i64 t667,.int .i64 x671001_3,.int .i64 x671002_3] (0,0) _ rfl (by exact zp3 (zK BK666.1)) Try.underlying37 rfl (by kernel_rfl)) rfl ?_
    exact ⟨zE,zB93,zB1,zB2⟩
   subst c24
   rw [if_pos rfl] at H
   generalize hy683:((([(-1),24]:List Int)):List Int)=y683 at H
   have Ny683:=zM hy683.symm
   clear hy683
   replace H:=zO H
   obtain ⟨⟨t686,t687,t688⟩,A25,H⟩:=H
   try dsimp only at H
   simp only [Option.some.injEq,Prod.mk.injEq] at H
   obtain ⟨rfl,rfl,rfl,rfl,rfl⟩:=H
   go_wp2_with (first|((with_reducible refine zG Try.func41 17 #[.pointer (some ⟨g,0,none⟩),.int .i64 12] ?_);(with_reducible refine (spec_l1Once.calls g s0_0 x1001_3 x1002_3 12 true t681 t682 w0 _ ?side1 ?side2 A23.1).mono ?_);(case side1=>exact zB93);(case side2=>exact zB1);rintro e w26 ⟨rfl,hi,hb,hk⟩;refine ⟨_,rfl,?_⟩;replace BK666:=zM (zh hk BK666.1 NB666_0.1);replace BK670:=zM (zh hk BK670.1 NB670_0.1);replace HK:=zM (KeepBut.trans zB2 hk (.inl rfl));replace HB:=zM hb;replace HI0:=zM hi;clear hb hk hi)|((with_reducible refine gate_dst (N:=19) rfl ?_);refine Kd.R_lit (Kd.int .i64) _ 3 ?hg (N:=19) ?hd (xs:=([(-1),24]:List Int)) (inner:=[.int .i64 (-1),.int .i64 24]) (ok:=fun _=>True) (okp:=fun _=>True) ?hr ?hp (fun _ hk=>hk) trivial (Below.refl _ _) (Nat.le_refl _) (by simp) ?_;(case hd=>rfl);(case hg=>rfl);(case hr=>exact zHH);(case hp=>exact (Reps.one (show Kd.M (Kd.int .i64) _ _ _ (-1) [.int .i64 (-1)] from rfl) (Reps.one (show Kd.M (Kd.int .i64) _ _ _ 24 [.int .i64 24] from rfl) (Reps.none _ _))));intro v684 w27 ho28 hb hg_ hnew_;clear hg_ hnew_;(first|rw [←Ny683.1] at ho28|(simp only [Int.reduceToNat] at ho28;rw [←Ny683.1] at ho28));have HO685:=zM (Kd.R_lower ho28 (keep_size (w:=w) (g:=g) (row:=none) zB2));replace BK666:=zM (zb BK666.1 hb);replace BK670:=zM (zb BK670.1 hb);replace HK:=zM (KeepBut.trans zB2 (KeepBut.of_below hb g none) (.inl rfl));replace HB:=zM (below_step zB1 hb);replace HI0:=zM (IsS104.below zB93 hb);clear hb ho28;obtain ⟨Ao29,co29,eo29⟩:=Kd.R_slice HO685.1;subst eo29)|((with_reducible refine zG Try.func84 20 #[.pointer (some ⟨g,0,none⟩),.slice Ao29 y683.length co29] ?_);(with_reducible refine (spec_l1PickInt.calls g s0_0 t681 t682 _ _ y683 t686 t687 t688 w0 _ ?side1 ?side2 ?side3 ?side4 ?side5 A25.1).mono ?_);(case side1=>exact zB93);(case side2=>exact zB1);(case side3=>exact zC (Kd.R_reads' HO685.1).2.2);(case side4=>exact (Kd.R_reads' HO685.1).2.1);(case side5=>exact far_slice (IsS104.own_ne HI0.1 HO685.1 (by decide)));rintro e w30 ⟨rfl,hi,hb,hk⟩;refine ⟨_,rfl,?_⟩;replace BK666:=zM (zh hk BK666.1 NB666_0.1);replace BK670:=zM (zh hk BK670.1 NB670_0.1);replace HO685:=zM (Kd.R_mono (Kd.R_keep (IsS104.apart (show IsS104 w0 _ g s0_0 t681 t682 from zB93) (zR HO685.1) (by decide)) hk (fun _ h=>h.2)) (fun _ h=>h.1));replace HK:=zM (KeepBut.trans zB2 hk (.inl rfl));replace HB:=zM hb;replace HI0:=zM hi;clear hb hk hi;have hnb31:=NB670_666.1;have hnc31:=NB666_670.1;have hnb32:=NB670_0.1;have hnc32:=NB0_670.1;have hcz33:=zc_3 (w:=w30) BK670.1;have hnb34:=NB666_0.1;have hnc34:=NB0_666.1;have hcz35:=zc_3 (w:=w30) BK666.1))
   refine bodyPost_ret (results_cell_row rfl _ _ gb666 37 #[.int .i64 t686,.int .i64 x671001_3,.int .i64 x671002_3] (0,0) _ rfl zPq Try.underlying37 rfl (by kernel_rfl)) rfl ?_
   exact ⟨zE,zB93,zB1,zB2⟩

/-! ### spec_DrawSeqOk: function 9 -/
mutual
def spec_DrawSeqOk.l0:Nat→List (List (S37))→Int→List Int→Int→Int→Option (List Int×(List (List (S37))))
 |0,_,_,_,_,_=>none
 |k+1,x8,x9,x693000,x693001,x693002=>(spec_l1Below.f x693000 x693001 x693002 3).bind fun bt716=>(if x9<(wrap64 (1+bt716.1)) then (spec_DrawSeqOk.l1 k x8 x9 (([]:List (S37))) 0 x693000 bt716.2.1 bt716.2.2) else (some ((List.replicate 24 0),x8)))
def spec_DrawSeqOk.l1:Nat→List (List (S37))→Int→List (S37)→Int→List Int→Int→Int→Option (List Int×(List (List (S37))))
 |0,_,_,_,_,_,_,_=>none
 |k+1,x8,x9,x10,x11,x693000,x693001,x693002=>(spec_l1Below.f x693000 x693001 x693002 4).bind fun bt725=>(if x11<bt725.1 then ((spec_l21DrawDid.f k x693000 bt725.2.1 bt725.2.2).bind fun bt728=>(if x10.length<5864062014805 then (spec_DrawSeqOk.l1 k x8 x9 (x10++[(⟨bt728.1,bt728.2.1,bt728.2.2.1⟩:S37)]) (wrap64 (x11+1)) x693000 bt728.2.2.2.1 bt728.2.2.2.2) else (none))) else (if x8.length<5864062014805 then (spec_DrawSeqOk.l0 k (x8++[x10]) (wrap64 (x9+1)) x693000 bt725.2.1 bt725.2.2) else (none)))
end
def spec_DrawSeqOk.f (k:Nat) (l0:List Int):Option (List Int×(List (List (S37)))):=(spec_l1New.f k l0).bind fun bt689=>((spec_l1Once.f bt689.1 bt689.2.1 bt689.2.2 3).bind fun bt693=>(if bt693.1=true then ((spec_l18DrawRun.f k bt689.1 bt693.2.1 bt693.2.2 14).bind fun bt696=>((spec_Trace.f k bt696.1 bt696.2.1 bt696.2.2.1).bind fun t707=>((spec_ByHart.f k (bt696.2.1.length:Int) t707).bind fun t710=>(some (bt696.1,t710))))) else (spec_DrawSeqOk.l0 k (([]:List (List (S37)))) 0 bt689.1 bt693.2.1 bt693.2.2)))
theorem spec_DrawSeqOk.mono_l: ∀k,(∀y0 y1 y2 y3 y4,LeO (spec_DrawSeqOk.l0 k y0 y1 y2 y3 y4) (spec_DrawSeqOk.l0 (k+1) y0 y1 y2 y3 y4))∧(∀y0 y1 y2 y3 y4 y5 y6,LeO (spec_DrawSeqOk.l1 k y0 y1 y2 y3 y4 y5 y6) (spec_DrawSeqOk.l1 (k+1) y0 y1 y2 y3 y4 y5 y6))
 |0=>⟨fun _ _ _ _ _ r h=>by simp [spec_DrawSeqOk.l0] at h,fun _ _ _ _ _ _ _ r h=>by simp [spec_DrawSeqOk.l1] at h⟩
 |k+1=>by
  obtain ⟨ih0,ih1⟩:=spec_DrawSeqOk.mono_l k
  refine ⟨?_,?_⟩
  ·intros
   unfold spec_DrawSeqOk.l0
   have mo0:=@spec_ByHart.mono
   have mo1:=@spec_Trace.mono
   have mo2:=@spec_l18DrawRun.mono
   have mo3:=@spec_l1New.mono
   have mo4:=@spec_l21DrawDid.mono
   exact zL
  ·intros
   unfold spec_DrawSeqOk.l1
   have mo0:=@spec_ByHart.mono
   have mo1:=@spec_Trace.mono
   have mo2:=@spec_l18DrawRun.mono
   have mo3:=@spec_l1New.mono
   have mo4:=@spec_l21DrawDid.mono
   exact zL
theorem spec_DrawSeqOk.mono: ∀a0 k,LeO (spec_DrawSeqOk.f k a0) (spec_DrawSeqOk.f (k+1) a0):=by
 intro a0 k
 obtain ⟨ih0,ih1⟩:=spec_DrawSeqOk.mono_l k
 unfold spec_DrawSeqOk.f
 have mo0:=@spec_ByHart.mono
 have mo1:=@spec_Trace.mono
 have mo2:=@spec_l18DrawRun.mono
 have mo3:=@spec_l1New.mono
 have mo4:=@spec_l21DrawDid.mono
 exact zL
theorem spec_DrawSeqOk.calls (k:Nat) (A0:Option Addr) (c0:Nat) (l0:List Int) (r1:List Int) (r2:List (List (S37))) (w:World) (hr0:Kd.C (Kd.int .u8) w A0 l0.length l0) (hc0:l0.length≤c0) (h:spec_DrawSeqOk.f k l0=some (r1,r2)):
  Calls Try.prog 9 #[.slice A0 l0.length c0] w fun e w'=>∃v0_ v1_:Value,e= .returned (.tuple #[v0_,v1_])∧Kd.R (Kd.int .i64) 3 w' w.heap.size (fun _=>True) v0_ r1∧Kd.S (Kd.slice 37 k37) 41 w' w.heap.size (fun _=>True) v1_ r2∧Below w.heap.size w w':=by
 have HR0:=zM hr0
 have HC0:=zM hc0
 clear hr0 hc0
 have HB:=zM (Below.refl w.heap.size w)
 unfold spec_DrawSeqOk.f at h
 have H:=h
 clear h
 replace H:=zO H
 obtain ⟨⟨t689,t690,t691⟩,A2,H⟩:=H
 try dsimp only at H
 replace H:=zO H
 obtain ⟨⟨t693,t694,t695⟩,A3,H⟩:=H
 try dsimp only at H
 by_cases c4:t693=true
 ·subst c4
  rw [if_pos rfl] at H
  replace H:=zO H
  obtain ⟨⟨t696,t699,t702,t705,t706⟩,A5,H⟩:=H
  try dsimp only at H
  replace H:=zO H
  obtain ⟨t707,A6,H⟩:=H
  replace H:=zO H
  obtain ⟨t710,A7,H⟩:=H
  simp only [Option.some.injEq,Prod.mk.injEq] at H
  obtain ⟨rfl,rfl⟩:=H
  go_enter Try.func9,Try.ntmps9
  go_wp2_with (first|((with_reducible refine zG Try.func32 13 #[.slice A0 l0.length c0] ?_);(with_reducible refine (spec_l1New.calls k _ _ l0 t689 t690 t691 w _ ?side1 ?side2 ?side3 A2.1).mono ?_);(case side1=>exact zB3);(case side2=>exact HR0.1);(case side3=>exact HC0.1);rintro e w8 ⟨g692,rfl,hi,hb,hb2⟩;refine ⟨_,rfl,?_⟩;replace HB:=zM hb;have HI692:=zM hi;clear hb hb2 hi)|((with_reducible refine zG Try.func41 15 #[.pointer (some ⟨g692,0,none⟩),.int .i64 3] ?_);(with_reducible refine (spec_l1Once.calls g692 t689 t690 t691 3 true t694 t695 w _ ?side1 ?side2 A3.1).mono ?_);(case side1=>exact zB96);(case side2=>exact zB97);rintro e w9 ⟨rfl,hi,hb,hk⟩;refine ⟨_,rfl,?_⟩;replace HB:=zM hb;replace HI692:=zM hi;clear hb hk hi)|((with_reducible refine zG Try.func31 18 #[.pointer (some ⟨g692,0,none⟩),.int .i64 14] ?_);(with_reducible refine (spec_l18DrawRun.calls k g692 t689 t694 t695 14 t696 t699 t702 t705 t706 w _ ?side1 ?side2 A5.1).mono ?_);(case side1=>exact zB96);(case side2=>exact zB97);rintro e w10 ⟨v697,v700,v703,rfl,ho0,ho1,ho2,hi,hb,hk⟩;refine ⟨_,rfl,?_⟩;have HO698:=zM (Kd.R_lower ho0 (below_size zB97));have HO701:=zM (Kd.S_lower ho1 (below_size zB97));have HO704:=zM (Kd.R_lower ho2 (below_size zB97));replace HB:=zM hb;replace HI692:=zM hi;clear hb hk hi ho0 ho1 ho2;obtain ⟨Ao11,co11,eo11⟩:=Kd.S_slice HO701.1;subst eo11;obtain ⟨Ao12,co12,eo12⟩:=Kd.R_slice HO698.1;subst eo12;obtain ⟨Ao13,co13,eo13⟩:=Kd.R_slice HO704.1;subst eo13)|((with_reducible refine zG Try.func42 28 #[.slice Ao12 t696.length co12,.slice Ao11 t699.length co11,.slice Ao13 t702.length co13] ?_);(with_reducible refine (spec_Trace.calls k _ _ t696 (fun k_=>((some k_≠(.slice Ao12 t696.length co12:Value).ownBlock∧some k_≠(.slice Ao13 t702.length co13:Value).ownBlock)∧k_≠g692)) _ _ t699 _ _ t702 t707 _ ?side1 ?side2 ?side3 ?side4 ?side5 A6.1).mono ?_);(case side1=>exact zC (Kd.R_reads' HO698.1).2.2);(case side2=>exact (Kd.R_reads' HO698.1).2.1);(case side3=>exact Kd.S_V (IsS104.apartS HI692.1 (HO701.1) (by decide)));(case side4=>exact zC (Kd.R_reads' HO704.1).2.2);(case side5=>exact (Kd.R_reads' HO704.1).2.1);rintro e w14 ⟨v708,rfl,ho0,hb⟩;refine ⟨_,rfl,?_⟩;replace HO698:=zM (Kd.R_below (zR HO698.1) hb);replace HO701:=zM (Kd.S_below (zS HO701.1) hb);replace HO704:=zM (Kd.R_below (zR HO704.1) hb);have HO709:=zM (Kd.R_lower (Kd.R_mono (ok':=fun k_=>True) ho0 (fun _ hk_=>trivial)) (below_size zB97));replace HB:=zM (below_step zB97 hb);replace HI692:=zM (IsS104.below zB96 hb);clear hb ho0;obtain ⟨Ao15,co15,eo15⟩:=Kd.R_slice HO709.1;subst eo15)|((with_reducible refine zG Try.func12 29 #[.int .i64 (t699.length:Int),.slice Ao15 t707.length co15] ?_);(with_reducible refine (spec_ByHart.calls k (t699.length:Int) _ _ t707 t710 _ ?side1 ?side2 A7.1).mono ?_);(case side1=>exact zC (Kd.R_reads' HO709.1).2.2);(case side2=>exact (Kd.R_reads' HO709.1).2.1);rintro e w16 ⟨v711,rfl,ho0,hb⟩;refine ⟨_,rfl,?_⟩;replace HO698:=zM (Kd.R_below (zR HO698.1) hb);replace HO701:=zM (Kd.S_below (zS HO701.1) hb);replace HO704:=zM (Kd.R_below (zR HO704.1) hb);replace HO709:=zM (Kd.R_below (zR HO709.1) hb);have HO712:=zM (Kd.S_lower ho0 (below_size zB97));replace HB:=zM (below_step zB97 hb);replace HI692:=zM (IsS104.below zB96 hb);clear hb ho0))
  go_ret2
  exact ⟨_,_,zE,by refine zrR ?_;exact Kd.R_mono HO698.1 (fun _ hk=>trivial),zS HO712.1,zB97⟩
 replace c4:=Bool.eq_false_iff.mpr c4
 subst c4
 rw [if_neg zF] at H
 generalize hy713:((([]:List (List (S37)))):List (List (S37)))=y713 at H
 have Ny713:=zM hy713.symm
 clear hy713
 have H':=zM H
 clear H
 go_enter Try.func9,Try.ntmps9
 go_wp2_with (first|((with_reducible refine zG Try.func32 13 #[.slice A0 l0.length c0] ?_);(with_reducible refine (spec_l1New.calls k _ _ l0 t689 t690 t691 w _ ?side1 ?side2 ?side3 A2.1).mono ?_);(case side1=>exact zB3);(case side2=>exact HR0.1);(case side3=>exact HC0.1);rintro e w17 ⟨g692,rfl,hi,hb,hb2⟩;refine ⟨_,rfl,?_⟩;replace HB:=zM hb;have HI692:=zM hi;clear hb hb2 hi)|((with_reducible refine zG Try.func41 15 #[.pointer (some ⟨g692,0,none⟩),.int .i64 3] ?_);(with_reducible refine (spec_l1Once.calls g692 t689 t690 t691 3 false t694 t695 w _ ?side1 ?side2 A3.1).mono ?_);(case side1=>exact zB96);(case side2=>exact zB97);rintro e w18 ⟨rfl,hi,hb,hk⟩;refine ⟨_,rfl,?_⟩;replace HB:=zM hb;replace HI692:=zM hi;clear hb hk hi)|((with_reducible refine gate_dst (N:=30) rfl ?_);refine Kd.S_lit (Kd.slice 37 k37) _ 41 ?hg (N:=30) ?hd (xs:=([]:List (List (S37)))) (inner:=[]) (ok:=fun _=>True) (okp:=fun _=>True) ?hr ?hp (fun _ hk=>hk) trivial (Below.refl _ _) (Nat.le_refl _) (by simp) ?_;(case hd=>rfl);(case hg=>rfl);(case hr=>exact zHH);(case hp=>exact (Reps.none _ _));intro v714 w19 ho20 hb hg_ hnew_;clear hg_ hnew_;(first|rw [←Ny713.1] at ho20|(simp only [Int.reduceToNat] at ho20;rw [←Ny713.1] at ho20));have HO715:=zM (Kd.S_lower ho20 (below_size zB97));replace HB:=zM (below_step zB97 hb);replace HI692:=zM (IsS104.below zB96 hb);clear hb ho20))
 go_loopg [8,9] k (fun kq v8 v9 w'=>∃(x8_1:List (List (S37))) (x9_1:Int) (x693001_1:Int) (x693002_1:Int),v9= .int .i64 x9_1∧Aside0 (spec_DrawSeqOk.l0 kq x8_1 x9_1 t689 x693001_1 x693002_1=some (r1,r2))∧Aside0 (kq≤k)∧Aside0 (Kd.S (Kd.slice 37 k37) 41 w' w.heap.size (fun _=>True) v8 x8_1)∧Aside0 (IsS104 w w' g692 t689 x693001_1 x693002_1)∧Aside0 (Below w.heap.size w w'))
 case atStart=>exact ⟨(y713),(0),(t694),(t695),zJJ,H',⟨Nat.le_refl _⟩,⟨zS HO715.1⟩,⟨zB96⟩,⟨zB97⟩⟩
 case round=>
  clear H'
  obtain ⟨x8_1,x9_1,x693001_1,x693002_1,rfl,HA,HK1,HO_8,HI692,HB⟩:=hrel
  cases gk with
  |zero=>exact absurd HA.1 (by simp [spec_DrawSeqOk.l0])
  |succ k1=>
   have H:=HA.1
   clear HA
   simp only [spec_DrawSeqOk.l0] at H
   replace H:=zO H
   obtain ⟨⟨t716,t717,t718⟩,A21,H⟩:=H
   try dsimp only at H
   by_cases c22:x9_1<(wrap64 (1+t716))
   rotate_left
   ·rw [if_neg c22] at H
    have c22b0:=decide_eq_false c22
    clear c22
    generalize hy719:((List.replicate 24 0):List Int)=y719 at H
    have Ny719:=zM hy719.symm
    clear hy719
    simp only [Option.some.injEq,Prod.mk.injEq] at H
    obtain ⟨rfl,rfl⟩:=H
    go_wp2_with (first|((with_reducible refine zG Try.func43 33 #[.pointer (some ⟨g692,0,none⟩),.int .i64 3] ?_);(with_reducible refine (spec_l1Below.calls g692 t689 x693001_1 x693002_1 3 t716 t717 t718 w _ ?side1 ?side2 A21.1).mono ?_);(case side1=>exact zB96);(case side2=>exact zB97);rintro e w37 ⟨rfl,hi,hb,hk⟩;refine ⟨_,rfl,?_⟩;replace HO_8:=zM (Kd.S_mono (Kd.S_keep (IsS104.apartS (show IsS104 w _ g692 t689 x693001_1 x693002_1 from zB96) (zS HO_8.1) (by decide)) hk (fun _ h=>h.2)) (fun _ h=>h.1));replace HB:=zM hb;replace HI692:=zM hi;clear hb hk hi)|((with_reducible refine gate_dst (N:=54) rfl ?_);refine Kd.R_make (Kd.int .i64) _ 3 rfl (N:=54) rfl 24 _ _ rfl 24 rfl rfl Try.underlying24 (.int .i64 0) 8 info3 rfl (by decide) (by omega) 0 (ok:=fun _=>True) (okp:=fun _=>True) rfl (fun _ hk=>hk) trivial (by omega) (by omega) (Below.refl _ _) (Nat.le_refl _) ?_;intro v720 w38 ho39 hb hg_ hnew_;clear hg_ hnew_;(first|rw [←Ny719.1] at ho39|(simp only [Int.reduceToNat] at ho39;rw [←Ny719.1] at ho39));replace HO_8:=zM (Kd.S_below (zS HO_8.1) hb);have HO721:=zM (Kd.R_lower ho39 (below_size zB97));replace HB:=zM (below_step zB97 hb);replace HI692:=zM (IsS104.below zB96 hb);clear hb ho39))
    go_ret2
    exact ⟨_,_,zE,zR HO721.1,zS HO_8.1,zB97⟩
   rw [if_pos c22] at H
   have c22b0:=decide_eq_true c22
   clear c22
   generalize hy722:((([]:List (S37))):List (S37))=y722 at H
   have Ny722:=zM hy722.symm
   clear hy722
   have H':=zM H
   clear H
   go_wp2_with (first|((with_reducible refine zG Try.func43 33 #[.pointer (some ⟨g692,0,none⟩),.int .i64 3] ?_);(with_reducible refine (spec_l1Below.calls g692 t689 x693001_1 x693002_1 3 t716 t717 t718 w _ ?side1 ?side2 A21.1).mono ?_);(case side1=>exact zB96);(case side2=>exact zB97);rintro e w23 ⟨rfl,hi,hb,hk⟩;refine ⟨_,rfl,?_⟩;replace HO_8:=zM (Kd.S_mono (Kd.S_keep (IsS104.apartS (show IsS104 w _ g692 t689 x693001_1 x693002_1 from zB96) (zS HO_8.1) (by decide)) hk (fun _ h=>h.2)) (fun _ h=>h.1));replace HB:=zM hb;replace HI692:=zM hi;clear hb hk hi)|((with_reducible refine gate_dst (N:=38) rfl ?_);refine Kd.R_lit k37 _ 37 ?hg (N:=38) ?hd (xs:=([]:List (S37))) (inner:=[]) (ok:=fun _=>True) (okp:=fun _=>True) ?hr ?hp (fun _ hk=>hk) trivial (Below.refl _ _) (Nat.le_refl _) (by simp) ?_;(case hd=>rfl);(case hg=>rfl);(case hr=>exact zHH);(case hp=>exact (Reps.none _ _));intro v723 w24 ho25 hb hg_ hnew_;clear hg_ hnew_;(first|rw [←Ny722.1] at ho25|(simp only [Int.reduceToNat] at ho25;rw [←Ny722.1] at ho25));replace HO_8:=zM (Kd.S_elder' (zS HO_8.1) (Kd.R_base ho25) hb);have HO724:=zM (Kd.R_lower ho25 (below_size zB97));replace HB:=zM (below_step zB97 hb);replace HI692:=zM (IsS104.below zB96 hb);clear hb ho25))
   go_loopg [10,11] k1 (fun kq v10 v11 w'=>∃(x10_2:List (S37)) (x11_2:Int) (x693001_2:Int) (x693002_2:Int),v11= .int .i64 x11_2∧Aside0 (spec_DrawSeqOk.l1 kq x8_1 x9_1 x10_2 x11_2 t689 x693001_2 x693002_2=some (r1,r2))∧Aside0 (kq≤k1)∧Aside0 (Kd.S (Kd.slice 37 k37) 41 w' w.heap.size (fun k_=>some k_≠(v10:Value).ownBlock) u8 x8_1)∧Aside0 (Kd.R k37 37 w' w.heap.size (fun _=>True) v10 x10_2)∧Aside0 (IsS104 w w' g692 t689 x693001_2 x693002_2)∧Aside0 (Below w.heap.size w w'))
   case atStart=>exact ⟨(y722),(0),(t717),(t718),zJJ,H',⟨Nat.le_refl _⟩,⟨by refine zrS ?_;exact Kd.S_mono HO_8.1 (fun _ hk=>hk.2)⟩,⟨zR HO724.1⟩,⟨zB96⟩,⟨zB97⟩⟩
   case round=>
    clear H'
    obtain ⟨x10_2,x11_2,x693001_2,x693002_2,rfl,HA,HK2,HO_8,HO_10,HI692,HB⟩:=hrel
    cases gk with
    |zero=>exact absurd HA.1 (by simp [spec_DrawSeqOk.l1])
    |succ k2=>
     have H:=HA.1
     clear HA
     simp only [spec_DrawSeqOk.l1] at H
     replace H:=zO H
     obtain ⟨⟨t725,t726,t727⟩,A26,H⟩:=H
     try dsimp only at H
     by_cases c27:x11_2<t725
     rotate_left
     ·rw [if_neg c27] at H
      have c27b0:=decide_eq_false c27
      clear c27
      replace H:=zIn H
      obtain ⟨LMc33,H⟩:=H
      generalize hy736:((x8_1++[x10_2]):List (List (S37)))=y736 at H
      have Ny736:=zM hy736.symm
      clear hy736
      have H':=zM H
      clear H
      go_wp2_with (first|((with_reducible refine zG Try.func43 41 #[.pointer (some ⟨g692,0,none⟩),.int .i64 4] ?_);(with_reducible refine (spec_l1Below.calls g692 t689 x693001_2 x693002_2 4 t725 t726 t727 w _ ?side1 ?side2 A26.1).mono ?_);(case side1=>exact zB96);(case side2=>exact zB97);rintro e w34 ⟨rfl,hi,hb,hk⟩;refine ⟨_,rfl,?_⟩;replace HO_8:=zM (Kd.S_mono (Kd.S_keep (IsS104.apartS (show IsS104 w _ g692 t689 x693001_2 x693002_2 from zB96) (zS HO_8.1) (by decide)) hk (fun _ h=>h.2)) (fun _ h=>h.1));replace HO_10:=zM (Kd.R_mono (Kd.R_keep (IsS104.apart (show IsS104 w _ g692 t689 x693001_2 x693002_2 from zB96) (zR HO_10.1) (by decide)) hk (fun _ h=>h.2)) (fun _ h=>h.1));replace HB:=zM hb;replace HI692:=zM hi;clear hb hk hi;obtain ⟨Ao36,co36,eo36⟩:=Kd.R_slice HO_10.1;subst eo36)|((with_reducible refine gate_builtin (b:= .append) (xs:=#[.tmp 50,.tmp 52]) rfl ?_);at_builtin;refine Kd.S_append (Kd.slice 37 k37) (w0:=w) w.heap.size rfl (.tmp 50) (.tmp 52) 30 41 (.slice none 0 0) 24 rfl Try.underlying30 info41 rfl (by decide) (by omega) u8 x8_1 x10_2 [.slice Ao36 x10_2.length co36] (fun _=>True) (fun k_=>some k_=(.slice Ao36 x10_2.length co36:Value).ownBlock) rfl rfl ?aP (fun k_ hk_=>((Kd.R_mono (ok':=fun k_=>((fun _=>True)) k_∧some k_≠(u8:Value).ownBlock) (Kd.R_apart' (HO_10.1) (Kd.S_typed HO_8.1) (by decide)) (fun k_ hk=>⟨trivial,hk.2⟩))).1 k_ hk_.symm) ?aF ?aO ?aB ?aS ?aL ?_;(case aP=>exact Kd.M_row (Kd.R_mono (Kd.R_tight rfl (Kd.R_mono (ok':=fun k_=>((fun _=>True)) k_∧some k_≠(u8:Value).ownBlock) (Kd.R_apart' (HO_10.1) (Kd.S_typed HO_8.1) (by decide)) (fun k_ hk=>⟨trivial,hk.2⟩))) (fun _ h_=>h_)));(case aB=>exact zB97);(case aF=>exact (fun _ _=>trivial));(case aO=>exact (by refine zrS ?_;exact Kd.S_mono HO_8.1 (fun k_ hk=>⟨trivial,fun e_=>hk e_⟩)));(case aS=>exact (below_size zB97));(case aL=>have:=LMc33.out;omega);intro v737 w35 ho hb hg hat;rw [←Ny736.1] at ho;replace HI692:=zM (IsS104.grown (show IsS104 w _ g692 t689 t726 t727 from zB96) hg (IsS104.own_neS HI692.1 HO_8.1 (by decide)));replace HB:=zM hb;have HO738:=zM ho;clear HO_8 HO_10;clear ho hb hg hat))
      go_roundg k2
      case measure=>have:=HK1.1;have:=HK2.1;omega
      case rel=>exact ⟨(y736),(wrap64 (x9_1+1)),(t726),(t727),zJJ,H',⟨by have:=HK1.1;have:=HK2.1;omega⟩,⟨zS HO738.1⟩,⟨zB96⟩,⟨zB97⟩⟩
     rw [if_pos c27] at H
     have c27b0:=decide_eq_true c27
     clear c27
     replace H:=zO H
     obtain ⟨⟨t728,t729,t730,t731,t732⟩,A28,H⟩:=H
     try dsimp only at H
     replace H:=zIn H
     obtain ⟨LMc29,H⟩:=H
     generalize hy733:((x10_2++[(⟨t728,t729,t730⟩:S37)]):List (S37))=y733 at H
     have Ny733:=zM hy733.symm
     clear hy733
     have H':=zM H
     clear H
     go_wp2_with (first|((with_reducible refine zG Try.func43 41 #[.pointer (some ⟨g692,0,none⟩),.int .i64 4] ?_);(with_reducible refine (spec_l1Below.calls g692 t689 x693001_2 x693002_2 4 t725 t726 t727 w _ ?side1 ?side2 A26.1).mono ?_);(case side1=>exact zB96);(case side2=>exact zB97);rintro e w30 ⟨rfl,hi,hb,hk⟩;refine ⟨_,rfl,?_⟩;replace HO_8:=zM (Kd.S_mono (Kd.S_keep (IsS104.apartS (show IsS104 w _ g692 t689 x693001_2 x693002_2 from zB96) (zS HO_8.1) (by decide)) hk (fun _ h=>h.2)) (fun _ h=>h.1));replace HO_10:=zM (Kd.R_mono (Kd.R_keep (IsS104.apart (show IsS104 w _ g692 t689 x693001_2 x693002_2 from zB96) (zR HO_10.1) (by decide)) hk (fun _ h=>h.2)) (fun _ h=>h.1));replace HB:=zM hb;replace HI692:=zM hi;clear hb hk hi)|((with_reducible refine zG Try.func44 47 #[.pointer (some ⟨g692,0,none⟩)] ?_);(with_reducible refine (spec_l21DrawDid.calls k2 g692 t689 t726 t727 t728 t729 t730 t731 t732 w _ ?side1 ?side2 A28.1).mono ?_);(case side1=>exact zB96);(case side2=>exact zB97);rintro e w31 ⟨rfl,hi,hb,hk⟩;refine ⟨_,rfl,?_⟩;replace HO_8:=zM (Kd.S_mono (Kd.S_keep (IsS104.apartS (show IsS104 w _ g692 t689 t726 t727 from zB96) (zS HO_8.1) (by decide)) hk (fun _ h=>h.2)) (fun _ h=>h.1));replace HO_10:=zM (Kd.R_mono (Kd.R_keep (IsS104.apart (show IsS104 w _ g692 t689 t726 t727 from zB96) (zR HO_10.1) (by decide)) hk (fun _ h=>h.2)) (fun _ h=>h.1));replace HB:=zM hb;replace HI692:=zM hi;clear hb hk hi)|((with_reducible refine gate_builtin (b:= .append) (xs:=#[.tmp 45,.tmp 48]) rfl ?_);at_builtin;refine Kd.R_append k37 (w0:=w) w.heap.size rfl (.tmp 45) (.tmp 48) 41 37 (.agg #[(.int .i64 0),(.int .i64 0),(.int .i64 0)]) 24 rfl Try.underlying41 info37 rfl (by decide) (by omega) u10 x10_2 (⟨t728,t729,t730⟩:S37) [.int .i64 t728,.int .i64 t729,.int .i64 t730] (fun _=>True) (fun _=>False) rfl rfl ?aP (fun _ hk=>hk.elim) ?aF ?aO ?aB ?aS ?aL ?_;(case aP=>exact k37_mkM _ _ _ (⟨t728,t729,t730⟩:S37));(case aB=>exact zB97);(case aF=>exact (fun _ _=>trivial));(case aO=>exact (zR HO_10.1));(case aS=>exact (below_size zB97));(case aL=>have:=LMc29.out;omega);intro v734 w32 ho hb hg hat;rw [←Ny733.1] at ho;replace HO_8:=zM (Kd.S_after (ok:=(fun _=>True)) (by refine zrS ?_;exact Kd.S_mono HO_8.1 (fun _ hk=>⟨trivial,hk⟩)) hg hat);replace HI692:=zM (IsS104.grown (show IsS104 w _ g692 t689 t731 t732 from zB96) hg (IsS104.own_ne HI692.1 HO_10.1 (by decide)));replace HB:=zM hb;have HO735:=zM ho;clear HO_10;clear ho hb hg hat))
     go_roundg k2
     case measure=>have:=HK1.1;have:=HK2.1;omega
     case rel=>exact ⟨(y733),(wrap64 (x11_2+1)),(t731),(t732),zJJ,H',⟨by have:=HK1.1;have:=HK2.1;omega⟩,⟨by refine zrS ?_;exact Kd.S_mono HO_8.1 (fun _ hk=>hk.2)⟩,⟨zR HO735.1⟩,⟨zB96⟩,⟨zB97⟩⟩

/-! ### spec_l19DrawEvent: function 85 -/
def spec_l19DrawEvent.f (s0_0:List Int) (s0_1:Int) (s0_2:Int):Option (Int×Int×Int×Int×Int×Int×Int):=(spec_l1Below.f s0_0 s0_1 s0_2 3).bind fun bt740=>((spec_l1Below.f s0_0 bt740.2.1 bt740.2.2 6).bind fun bt743=>((spec_l1Below.f s0_0 bt743.2.1 bt743.2.2 4).bind fun bt747=>(if bt747.1=0 then ((spec_l1Below.f s0_0 bt747.2.1 bt747.2.2 6).bind fun bt750=>((spec_l1Below.f s0_0 bt750.2.1 bt750.2.2 4).bind fun bt753=>(some (bt740.1,bt743.1,bt750.1,bt753.1,(-1),bt753.2.1,bt753.2.2)))) else (if bt747.1=1 then ((spec_l1Below.f s0_0 bt747.2.1 bt747.2.2 6).bind fun bt756=>((spec_l1Below.f s0_0 bt756.2.1 bt756.2.2 4).bind fun bt759=>(some (bt740.1,bt743.1,bt756.1,(-1),bt759.1,bt759.2.1,bt759.2.2)))) else (if bt747.1=2 then ((spec_l1Below.f s0_0 bt747.2.1 bt747.2.2 6).bind fun bt762=>((spec_l1Below.f s0_0 bt762.2.1 bt762.2.2 4).bind fun bt765=>((spec_l1Below.f s0_0 bt765.2.1 bt765.2.2 4).bind fun bt768=>(some (bt740.1,bt743.1,bt762.1,bt765.1,bt768.1,bt768.2.1,bt768.2.2))))) else (some (bt740.1,bt743.1,(-1),(-1),(-1),bt747.2.1,bt747.2.2)))))))
theorem spec_l19DrawEvent.calls (g:Nat) (s0_0:List Int) (s0_1:Int) (s0_2:Int) (r1:Int) (r2:Int) (r3:Int) (r4:Int) (r5:Int) (r6:Int) (r7:Int) (w0 w:World) (hI:IsS104 w0 w g s0_0 s0_1 s0_2) (hB:Below w0.heap.size w0 w) (h:spec_l19DrawEvent.f s0_0 s0_1 s0_2=some (r1,r2,r3,r4,r5,r6,r7)):
  Calls Try.prog 85 #[.pointer (some ⟨g,0,none⟩)] w fun e w'=>e= .returned (.agg #[.int .i64 r1,.int .i64 r2,.int .i64 r3,.int .i64 r4,.int .i64 r5])∧IsS104 w0 w' g s0_0 r6 r7∧Below w0.heap.size w0 w'∧KeepBut w w' g none:=by
 have hu74:=Try.underlying74
 have HI0:=zM hI
 have HK:=zM (KeepBut.refl w g none)
 have HL:=zM hB.size
 clear hI
 have HW0:=zM hB.size
 have HB:=zM hB
 clear hB
 unfold spec_l19DrawEvent.f at h
 have H:=h
 clear h
 replace H:=zO H
 obtain ⟨⟨t740,t741,t742⟩,A2,H⟩:=H
 try dsimp only at H
 replace H:=zO H
 obtain ⟨⟨t743,t744,t745⟩,A3,H⟩:=H
 try dsimp only at H
 replace H:=zO H
 obtain ⟨⟨t747,t748,t749⟩,A4,H⟩:=H
 try dsimp only at H
 by_cases c5:t747=0
 ·rw [if_pos c5] at H
  have c5b0:(t747 == 0)=true:=beq_iff_eq.mpr c5
  have c5b1:(t747 != 0)=false:=bne_eq_false_iff_eq.mpr c5
  clear c5
  replace H:=zO H
  obtain ⟨⟨t750,t751,t752⟩,A6,H⟩:=H
  try dsimp only at H
  replace H:=zO H
  obtain ⟨⟨t753,t754,t755⟩,A7,H⟩:=H
  try dsimp only at H
  simp only [Option.some.injEq,Prod.mk.injEq] at H
  obtain ⟨rfl,rfl,rfl,rfl,rfl,rfl,rfl⟩:=H
  go_enter Try.func85,Try.ntmps85
  go_wp2_with (first|((with_reducible refine zBx 2 74 #[.int .i64 0,.int .i64 0,.int .i64 0,.int .i64 0,.int .i64 0] ?_);intro gb739 hg w8 hbox hb;replace HB:=zM (below_step zB1 hb);have BK739:=zM hbox;have GW739:=zM ((by rw [hg];exact (keep_size (w:=w) (g:=g) (row:=none) zB2):w.heap.size≤gb739));have GE739:=zM ((Nat.le_trans HW0.1 (by rw [hg];exact (keep_size (w:=w) (g:=g) (row:=none) zB2):w.heap.size≤gb739):w0.heap.size≤gb739));replace HK:=zM (KeepBut.trans zB2 (KeepBut.of_below hb g none) (.inl rfl));have NB0_739:=zM ((by rw [hg];exact Nat.ne_of_lt (IsS104.lt (show IsS104 w0 _ g s0_0 s0_1 s0_2 from zB0)):g≠gb739));have NB739_0:=zM ((by rw [hg];exact Nat.ne_of_gt (IsS104.lt (show IsS104 w0 _ g s0_0 s0_1 s0_2 from zB0)):gb739≠g));replace HI0:=zM (IsS104.below zB0 hb);clear hb hbox hg)|((with_reducible refine zG Try.func43 5 #[.pointer (some ⟨g,0,none⟩),.int .i64 3] ?_);(with_reducible refine (spec_l1Below.calls g s0_0 s0_1 s0_2 3 t740 t741 t742 w0 _ ?side1 ?side2 A2.1).mono ?_);(case side1=>exact zB98);(case side2=>exact zB1);rintro e w9 ⟨rfl,hi,hb,hk⟩;refine ⟨_,rfl,?_⟩;replace BK739:=zM (zh hk BK739.1 NB739_0.1);replace HK:=zM (KeepBut.trans zB2 hk (.inl rfl));replace HB:=zM hb;replace HI0:=zM hi;clear hb hk hi)|((with_reducible refine zG Try.func43 7 #[.pointer (some ⟨g,0,none⟩),.int .i64 6] ?_);(with_reducible refine (spec_l1Below.calls g s0_0 t741 t742 6 t743 t744 t745 w0 _ ?side1 ?side2 A3.1).mono ?_);(case side1=>exact zB98);(case side2=>exact zB1);rintro e w10 ⟨rfl,hi,hb,hk⟩;refine ⟨_,rfl,?_⟩;replace BK739:=zM (zh hk BK739.1 NB739_0.1);replace HK:=zM (KeepBut.trans zB2 hk (.inl rfl));replace HB:=zM hb;replace HI0:=zM hi;clear hb hk hi)|((with_reducible refine zBx 3 74 #[.int .i64 0,.int .i64 0,.int .i64 0,.int .i64 0,.int .i64 0] ?_);intro gb746 hg w11 hbox hb;replace HB:=zM (below_step zB1 hb);have BK746:=zM hbox;have GW746:=zM ((by rw [hg];exact (keep_size (w:=w) (g:=g) (row:=none) zB2):w.heap.size≤gb746));have GE746:=zM ((Nat.le_trans HW0.1 (by rw [hg];exact (keep_size (w:=w) (g:=g) (row:=none) zB2):w.heap.size≤gb746):w0.heap.size≤gb746));replace HK:=zM (KeepBut.trans zB2 (KeepBut.of_below hb g none) (.inl rfl));have NB739_746:=zM ((zn BK739.1 hg:gb739≠gb746));have NB746_739:=zM ((zm BK739.1 hg:gb746≠gb739));replace BK739:=zM (zb BK739.1 hb);have NB0_746:=zM ((by rw [hg];exact Nat.ne_of_lt (IsS104.lt (show IsS104 w0 _ g s0_0 t744 t745 from zB98)):g≠gb746));have NB746_0:=zM ((by rw [hg];exact Nat.ne_of_gt (IsS104.lt (show IsS104 w0 _ g s0_0 t744 t745 from zB98)):gb746≠g));replace HI0:=zM (IsS104.below zB98 hb);clear hb hbox hg;have hnb12:=NB746_739.1;have hnc12:=NB739_746.1;have hnb13:=NB746_0.1;have hnc13:=NB0_746.1;have hcz14:=zc_5 (w:=w11) BK746.1)|((with_reducible refine zG Try.func43 10 #[.pointer (some ⟨g,0,none⟩),.int .i64 4] ?_);(with_reducible refine (spec_l1Below.calls g s0_0 t744 t745 4 t747 t748 t749 w0 _ ?side1 ?side2 A4.1).mono ?_);(case side1=>exact zB101);(case side2=>exact zB1);rintro e w15 ⟨rfl,hi,hb,hk⟩;refine ⟨_,rfl,?_⟩;replace BK739:=zM (KeepBut.blk hk (g':=gb739) (o:= .cells #[.int .i64 0,.int .i64 0,.int .i64 0,.int .i64 0,.int .i64 0] 74 (0,0)) zPq NB739_0.1 (by simp));replace BK746:=zM (KeepBut.blk hk (g':=gb746) (o:= .cells #[.int .i64 t740,.int .i64 t743,.int .i64 (-1),.int .i64 (-1),.int .i64 (-1)] 74 (0,0)) (by exact zp5 (zK BK746.1)) NB746_0.1 (by simp));replace HK:=zM (KeepBut.trans zB2 hk (.inl rfl));replace HB:=zM hb;replace HI0:=zM hi;clear hb hk hi)|((with_reducible refine zG Try.func43 14 #[.pointer (some ⟨g,0,none⟩),.int .i64 6] ?_);(with_reducible refine (spec_l1Below.calls g s0_0 t748 t749 6 t750 t751 t752 w0 _ ?side1 ?side2 A6.1).mono ?_);(case side1=>exact zB101);(case side2=>exact zB1);rintro e w16 ⟨rfl,hi,hb,hk⟩;refine ⟨_,rfl,?_⟩;replace BK739:=zM (zh hk BK739.1 NB739_0.1);replace BK746:=zM (zh hk BK746.1 NB746_0.1);replace HK:=zM (KeepBut.trans zB2 hk (.inl rfl));replace HB:=zM hb;replace HI0:=zM hi;clear hb hk hi;have hcz17:=zc_5 (w:=w16) BK746.1)|((with_reducible refine zG Try.func43 17 #[.pointer (some ⟨g,0,none⟩),.int .i64 4] ?_);(with_reducible refine (spec_l1Below.calls g s0_0 t751 t752 4 t753 t754 t755 w0 _ ?side1 ?side2 A7.1).mono ?_);(case side1=>exact zB101);(case side2=>exact zB1);rintro e w18 ⟨rfl,hi,hb,hk⟩;refine ⟨_,rfl,?_⟩;replace BK739:=zM (KeepBut.blk hk (g':=gb739) (o:= .cells #[.int .i64 0,.int .i64 0,.int .i64 0,.int .i64 0,.int .i64 0] 74 (0,0)) zPq NB739_0.1 (by simp));replace BK746:=zM (KeepBut.blk hk (g':=gb746) (o:= .cells #[.int .i64 t740,.int .i64 t743,.int .i64 t750,.int .i64 (-1),.int .i64 (-1)] 74 (0,0)) zPq NB746_0.1 (by simp));replace HK:=zM (KeepBut.trans zB2 hk (.inl rfl));replace HB:=zM hb;replace HI0:=zM hi;clear hb hk hi;have hcz19:=zc_5 (w:=w18) BK746.1;have hnb20:=NB739_0.1;have hnc20:=NB0_739.1;have hcz21:=zc_5 (w:=w18) BK739.1))
  refine bodyPost_ret (results_cell_row rfl _ _ gb739 74 #[.int .i64 t740,.int .i64 t743,.int .i64 t750,.int .i64 t753,.int .i64 (-1)] (0,0) _ rfl zPq Try.underlying74 rfl (by kernel_rfl)) rfl ?_
  exact ⟨zE,zB101,zB1,zB2⟩
 rw [if_neg c5] at H
 have c5b0:(t747 == 0)=false:=beq_eq_false_iff_ne.mpr c5
 have c5b1:(t747 != 0)=true:=bne_iff_ne.mpr c5
 by_cases c22:t747=1
 ·rw [if_pos c22] at H
  have c22b0:(t747 == 1)=true:=beq_iff_eq.mpr c22
  have c22b1:(t747 != 1)=false:=bne_eq_false_iff_eq.mpr c22
  clear c22
  replace H:=zO H
  obtain ⟨⟨t756,t757,t758⟩,A23,H⟩:=H
  try dsimp only at H
  replace H:=zO H
  obtain ⟨⟨t759,t760,t761⟩,A24,H⟩:=H
  try dsimp only at H
  simp only [Option.some.injEq,Prod.mk.injEq] at H
  obtain ⟨rfl,rfl,rfl,rfl,rfl,rfl,rfl⟩:=H
  go_enter Try.func85,Try.ntmps85
  go_wp2_with (first|((with_reducible refine zBx 2 74 #[.int .i64 0,.int .i64 0,.int .i64 0,.int .i64 0,.int .i64 0] ?_);intro gb739 hg w25 hbox hb;replace HB:=zM (below_step zB1 hb);have BK739:=zM hbox;have GW739:=zM ((by rw [hg];exact (keep_size (w:=w) (g:=g) (row:=none) zB2):w.heap.size≤gb739));have GE739:=zM ((Nat.le_trans HW0.1 (by rw [hg];exact (keep_size (w:=w) (g:=g) (row:=none) zB2):w.heap.size≤gb739):w0.heap.size≤gb739));replace HK:=zM (KeepBut.trans zB2 (KeepBut.of_below hb g none) (.inl rfl));have NB0_739:=zM ((by rw [hg];exact Nat.ne_of_lt (IsS104.lt (show IsS104 w0 _ g s0_0 s0_1 s0_2 from zB0)):g≠gb739));have NB739_0:=zM ((by rw [hg];exact Nat.ne_of_gt (IsS104.lt (show IsS104 w0 _ g s0_0 s0_1 s0_2 from zB0)):gb739≠g));replace HI0:=zM (IsS104.below zB0 hb);clear hb hbox hg)|((with_reducible refine zG Try.func43 5 #[.pointer (some ⟨g,0,none⟩),.int .i64 3] ?_);(with_reducible refine (spec_l1Below.calls g s0_0 s0_1 s0_2 3 t740 t741 t742 w0 _ ?side1 ?side2 A2.1).mono ?_);(case side1=>exact zB98);(case side2=>exact zB1);rintro e w26 ⟨rfl,hi,hb,hk⟩;refine ⟨_,rfl,?_⟩;replace BK739:=zM (zh hk BK739.1 NB739_0.1);replace HK:=zM (KeepBut.trans zB2 hk (.inl rfl));replace HB:=zM hb;replace HI0:=zM hi;clear hb hk hi)|((with_reducible refine zG Try.func43 7 #[.pointer (some ⟨g,0,none⟩),.int .i64 6] ?_);(with_reducible refine (spec_l1Below.calls g s0_0 t741 t742 6 t743 t744 t745 w0 _ ?side1 ?side2 A3.1).mono ?_);(case side1=>exact zB98);(case side2=>exact zB1);rintro e w27 ⟨rfl,hi,hb,hk⟩;refine ⟨_,rfl,?_⟩;replace BK739:=zM (zh hk BK739.1 NB739_0.1);replace HK:=zM (KeepBut.trans zB2 hk (.inl rfl));replace HB:=zM hb;replace HI0:=zM hi;clear hb hk hi)|((with_reducible refine zBx 3 74 #[.int .i64 0,.int .i64 0,.int .i64 0,.int .i64 0,.int .i64 0] ?_);intro gb746 hg w28 hbox hb;replace HB:=zM (below_step zB1 hb);have BK746:=zM hbox;have GW746:=zM ((by rw [hg];exact (keep_size (w:=w) (g:=g) (row:=none) zB2):w.heap.size≤gb746));have GE746:=zM ((Nat.le_trans HW0.1 (by rw [hg];exact (keep_size (w:=w) (g:=g) (row:=none) zB2):w.heap.size≤gb746):w0.heap.size≤gb746));replace HK:=zM (KeepBut.trans zB2 (KeepBut.of_below hb g none) (.inl rfl));have NB739_746:=zM ((zn BK739.1 hg:gb739≠gb746));have NB746_739:=zM ((zm BK739.1 hg:gb746≠gb739));replace BK739:=zM (zb BK739.1 hb);have NB0_746:=zM ((by rw [hg];exact Nat.ne_of_lt (IsS104.lt (show IsS104 w0 _ g s0_0 t744 t745 from zB98)):g≠gb746));have NB746_0:=zM ((by rw [hg];exact Nat.ne_of_gt (IsS104.lt (show IsS104 w0 _ g s0_0 t744 t745 from zB98)):gb746≠g));replace HI0:=zM (IsS104.below zB98 hb);clear hb hbox hg;have hnb29:=NB746_739.1;have hnc29:=NB739_746.1;have hnb30:=NB746_0.1;have hnc30:=NB0_746.1;have hcz31:=zc_5 (w:=w28) BK746.1)|((with_reducible refine zG Try.func43 10 #[.pointer (some ⟨g,0,none⟩),.int .i64 4] ?_);(with_reducible refine (spec_l1Below.calls g s0_0 t744 t745 4 t747 t748 t749 w0 _ ?side1 ?side2 A4.1).mono ?_);(case side1=>exact zB101);(case side2=>exact zB1);rintro e w32 ⟨rfl,hi,hb,hk⟩;refine ⟨_,rfl,?_⟩;replace BK739:=zM (KeepBut.blk hk (g':=gb739) (o:= .cells #[.int .i64 0,.int .i64 0,.int .i64 0,.int .i64 0,.int .i64 0] 74 (0,0)) zPq NB739_0.1 (by simp));replace BK746:=zM (KeepBut.blk hk (g':=gb746) (o:= .cells #[.int .i64 t740,.int .i64 t743,.int .i64 (-1),.int .i64 (-1),.int .i64 (-1)] 74 (0,0)) (by exact zp5 (zK BK746.1)) NB746_0.1 (by simp));replace HK:=zM (KeepBut.trans zB2 hk (.inl rfl));replace HB:=zM hb;replace HI0:=zM hi;clear hb hk hi)|((with_reducible refine zG Try.func43 22 #[.pointer (some ⟨g,0,none⟩),.int .i64 6] ?_);(with_reducible refine (spec_l1Below.calls g s0_0 t748 t749 6 t756 t757 t758 w0 _ ?side1 ?side2 A23.1).mono ?_);(case side1=>exact zB101);(case side2=>exact zB1);rintro e w33 ⟨rfl,hi,hb,hk⟩;refine ⟨_,rfl,?_⟩;replace BK739:=zM (zh hk BK739.1 NB739_0.1);replace BK746:=zM (zh hk BK746.1 NB746_0.1);replace HK:=zM (KeepBut.trans zB2 hk (.inl rfl));replace HB:=zM hb;replace HI0:=zM hi;clear hb hk hi;have hcz34:=zc_5 (w:=w33) BK746.1)|((with_reducible refine zG Try.func43 25 #[.pointer (some ⟨g,0,none⟩),.int .i64 4] ?_);(with_reducible refine (spec_l1Below.calls g s0_0 t757 t758 4 t759 t760 t761 w0 _ ?side1 ?side2 A24.1).mono ?_);(case side1=>exact zB101);(case side2=>exact zB1);rintro e w35 ⟨rfl,hi,hb,hk⟩;refine ⟨_,rfl,?_⟩;replace BK739:=zM (KeepBut.blk hk (g':=gb739) (o:= .cells #[.int .i64 0,.int .i64 0,.int .i64 0,.int .i64 0,.int .i64 0] 74 (0,0)) zPq NB739_0.1 (by simp));replace BK746:=zM (KeepBut.blk hk (g':=gb746) (o:= .cells #[.int .i64 t740,.int .i64 t743,.int .i64 t756,.int .i64 (-1),.int .i64 (-1)] 74 (0,0)) zPq NB746_0.1 (by simp));replace HK:=zM (KeepBut.trans zB2 hk (.inl rfl));replace HB:=zM hb;replace HI0:=zM hi;clear hb hk hi;have hcz36:=zc_5 (w:=w35) BK746.1;have hnb37:=NB739_0.1;have hnc37:=NB0_739.1;have hcz38:=zc_5 (w:=w35) BK739.1))
  refine bodyPost_ret (results_cell_row rfl _ _ gb739 74 #[.int .i64 t740,.int .i64 t743,.int .i64 t756,.int .i64 (-1),.int .i64 t759] (0,0) _ rfl zPq Try.underlying74 rfl (by kernel_rfl)) rfl ?_
  exact ⟨zE,zB101,zB1,zB2⟩
 rw [if_neg c22] at H
 have c22b0:(t747 == 1)=false:=beq_eq_false_iff_ne.mpr c22
 have c22b1:(t747 != 1)=true:=bne_iff_ne.mpr c22
 by_cases c39:t747=2
 rotate_left
 ·rw [if_neg c39] at H
  have c39b0:(t747 == 2)=false:=beq_eq_false_iff_ne.mpr c39
  have c39b1:(t747 != 2)=true:=bne_iff_ne.mpr c39
  simp only [Option.some.injEq,Prod.mk.injEq] at H
  obtain ⟨rfl,rfl,rfl,rfl,rfl,rfl,rfl⟩:=H
  go_enter Try.func85,Try.ntmps85
  go_wp2_with (first|((with_reducible refine zBx 2 74 #[.int .i64 0,.int .i64 0,.int .i64 0,.int .i64 0,.int .i64 0] ?_);intro gb739 hg w59 hbox hb;replace HB:=zM (below_step zB1 hb);have BK739:=zM hbox;have GW739:=zM ((by rw [hg];exact (keep_size (w:=w) (g:=g) (row:=none) zB2):w.heap.size≤gb739));have GE739:=zM ((Nat.le_trans HW0.1 (by rw [hg];exact (keep_size (w:=w) (g:=g) (row:=none) zB2):w.heap.size≤gb739):w0.heap.size≤gb739));replace HK:=zM (KeepBut.trans zB2 (KeepBut.of_below hb g none) (.inl rfl));have NB0_739:=zM ((by rw [hg];exact Nat.ne_of_lt (IsS104.lt (show IsS104 w0 _ g s0_0 s0_1 s0_2 from zB0)):g≠gb739));have NB739_0:=zM ((by rw [hg];exact Nat.ne_of_gt (IsS104.lt (show IsS104 w0 _ g s0_0 s0_1 s0_2 from zB0)):gb739≠g));replace HI0:=zM (IsS104.below zB0 hb);clear hb hbox hg)|((with_reducible refine zG Try.func43 5 #[.pointer (some ⟨g,0,none⟩),.int .i64 3] ?_);(with_reducible refine (spec_l1Below.calls g s0_0 s0_1 s0_2 3 t740 t741 t742 w0 _ ?side1 ?side2 A2.1).mono ?_);(case side1=>exact zB98);(case side2=>exact zB1);rintro e w60 ⟨rfl,hi,hb,hk⟩;refine ⟨_,rfl,?_⟩;replace BK739:=zM (zh hk BK739.1 NB739_0.1);replace HK:=zM (KeepBut.trans zB2 hk (.inl rfl));replace HB:=zM hb;replace HI0:=zM hi;clear hb hk hi)|((with_reducible refine zG Try.func43 7 #[.pointer (some ⟨g,0,none⟩),.int .i64 6] ?_);(with_reducible refine (spec_l1Below.calls g s0_0 t741 t742 6 t743 t744 t745 w0 _ ?side1 ?side2 A3.1).mono ?_);(case side1=>exact zB98);(case side2=>exact zB1);rintro e w61 ⟨rfl,hi,hb,hk⟩;refine ⟨_,rfl,?_⟩;replace BK739:=zM (zh hk BK739.1 NB739_0.1);replace HK:=zM (KeepBut.trans zB2 hk (.inl rfl));replace HB:=zM hb;replace HI0:=zM hi;clear hb hk hi)|((with_reducible refine zBx 3 74 #[.int .i64 0,.int .i64 0,.int .i64 0,.int .i64 0,.int .i64 0] ?_);intro gb746 hg w62 hbox hb;replace HB:=zM (below_step zB1 hb);have BK746:=zM hbox;have GW746:=zM ((by rw [hg];exact (keep_size (w:=w) (g:=g) (row:=none) zB2):w.heap.size≤gb746));have GE746:=zM ((Nat.le_trans HW0.1 (by rw [hg];exact (keep_size (w:=w) (g:=g) (row:=none) zB2):w.heap.size≤gb746):w0.heap.size≤gb746));replace HK:=zM (KeepBut.trans zB2 (KeepBut.of_below hb g none) (.inl rfl));have NB739_746:=zM ((zn BK739.1 hg:gb739≠gb746));have NB746_739:=zM ((zm BK739.1 hg:gb746≠gb739));replace BK739:=zM (zb BK739.1 hb);have NB0_746:=zM ((by rw [hg];exact Nat.ne_of_lt (IsS104.lt (show IsS104 w0 _ g s0_0 t744 t745 from zB98)):g≠gb746));have NB746_0:=zM ((by rw [hg];exact Nat.ne_of_gt (IsS104.lt (show IsS104 w0 _ g s0_0 t744 t745 from zB98)):gb746≠g));replace HI0:=zM (IsS104.below zB98 hb);clear hb hbox hg;have hnb63:=NB746_739.1;have hnc63:=NB739_746.1;have hnb64:=NB746_0.1;have hnc64:=NB0_746.1;have hcz65:=zc_5 (w:=w62) BK746.1)|((with_reducible refine zG Try.func43 10 #[.pointer (some ⟨g,0,none⟩),.int .i64 4] ?_);(with_reducible refine (spec_l1Below.calls g s0_0 t744 t745 4 t747 t748 t749 w0 _ ?side1 ?side2 A4.1).mono ?_);(case side1=>exact zB101);(case side2=>exact zB1);rintro e w66 ⟨rfl,hi,hb,hk⟩;refine ⟨_,rfl,?_⟩;replace BK739:=zM (KeepBut.blk hk (g':=gb739) (o:= .cells #[.int .i64 0,.int .i64 0,.int .i64 0,.int .i64 0,.int .i64 0] 74 (0,0)) zPq NB739_0.1 (by simp));replace BK746:=zM (KeepBut.blk hk (g':=gb746) (o:= .cells #[.int .i64 t740,.int .i64 t743,.int .i64 (-1),.int .i64 (-1),.int .i64 (-1)] 74 (0,0)) (by exact zp5 (zK BK746.1)) NB746_0.1 (by simp));replace HK:=zM (KeepBut.trans zB2 hk (.inl rfl));replace HB:=zM hb;replace HI0:=zM hi;clear hb hk hi;have hcz67:=zc_5 (w:=w66) BK746.1;have hnb68:=NB739_0.1;have hnc68:=NB0_739.1;have hcz69:=zc_5 (w:=w66) BK739.1))
  refine bodyPost_ret (results_cell_row rfl _ _ gb739 74 #[.int .i64 t740,.int .i64 t743,.int .i64 (-1),.int .i64 (-1),.int .i64 (-1)] (0,0) _ rfl (by exact zp5 (zK BK739.1)) Try.underlying74 rfl (by kernel_rfl)) rfl ?_
  exact ⟨zE,zB101,zB1,zB2⟩
 rw [if_pos c39] at H
 have c39b0:(t747 == 2)=true:=beq_iff_eq.mpr c39
 have c39b1:(t747 != 2)=false:=bne_eq_false_iff_eq.mpr c39
 clear c39
 replace H:=zO H
 obtain ⟨⟨t762,t763,t764⟩,A40,H⟩:=H
 try dsimp only at H
 replace H:=zO H
 obtain ⟨⟨t765,t766,t767⟩,A41,H⟩:=H
 try dsimp only at H
 replace H:=zO H
 obtain ⟨⟨t768,t769,t770⟩,A42,H⟩:=H
 try dsimp only at H
 simp only [Option.some.injEq,Prod.mk.injEq] at H
 obtain ⟨rfl,rfl,rfl,rfl,rfl,rfl,rfl⟩:=H
 go_enter Try.func85,Try.ntmps85
 go_wp2_with (first|((with_reducible refine zBx 2 74 #[.int .i64 0,.int .i64 0,.int .i64 0,.int .i64 0,.int .i64 0] ?_);intro gb739 hg w43 hbox hb;replace HB:=zM (below_step zB1 hb);have BK739:=zM hbox;have GW739:=zM ((by rw [hg];exact (keep_size (w:=w) (g:=g) (row:=none) zB2):w.heap.size≤gb739));have GE739:=zM ((Nat.le_trans HW0.1 (by rw [hg];exact (keep_size (w:=w) (g:=g) (row:=none) zB2):w.heap.size≤gb739):w0.heap.size≤gb739));replace HK:=zM (KeepBut.trans zB2 (KeepBut.of_below hb g none) (.inl rfl));have NB0_739:=zM ((by rw [hg];exact Nat.ne_of_lt (IsS104.lt (show IsS104 w0 _ g s0_0 s0_1 s0_2 from zB0)):g≠gb739));have NB739_0:=zM ((by rw [hg];exact Nat.ne_of_gt (IsS104.lt (show IsS104 w0 _ g s0_0 s0_1 s0_2 from zB0)):gb739≠g));replace HI0:=zM (IsS104.below zB0 hb);clear hb hbox hg)|((with_reducible refine zG Try.func43 5 #[.pointer (some ⟨g,0,none⟩),.int .i64 3] ?_);(with_reducible refine (spec_l1Below.calls g s0_0 s0_1 s0_2 3 t740 t741 t742 w0 _ ?side1 ?side2 A2.1).mono ?_);(case side1=>exact zB98);(case side2=>exact zB1);rintro e w44 ⟨rfl,hi,hb,hk⟩;refine ⟨_,rfl,?_⟩;replace BK739:=zM (zh hk BK739.1 NB739_0.1);replace HK:=zM (KeepBut.trans zB2 hk (.inl rfl));replace HB:=zM hb;replace HI0:=zM hi;clear hb hk hi)|((with_reducible refine zG Try.func43 7 #[.pointer (some ⟨g,0,none⟩),.int .i64 6] ?_);(with_reducible refine (spec_l1Below.calls g s0_0 t741 t742 6 t743 t744 t745 w0 _ ?side1 ?side2 A3.1).mono ?_);(case side1=>exact zB98);(case side2=>exact zB1);rintro e w45 ⟨rfl,hi,hb,hk⟩;refine ⟨_,rfl,?_⟩;replace BK739:=zM (zh hk BK739.1 NB739_0.1);replace HK:=zM (KeepBut.trans zB2 hk (.inl rfl));replace HB:=zM hb;replace HI0:=zM hi;clear hb hk hi)|((with_reducible refine zBx 3 74 #[.int .i64 0,.int .i64 0,.int .i64 0,.int .i64 0,.int .i64 0] ?_);intro gb746 hg w46 hbox hb;replace HB:=zM (below_step zB1 hb);have BK746:=zM hbox;have GW746:=zM ((by rw [hg];exact (keep_size (w:=w) (g:=g) (row:=none) zB2):w.heap.size≤gb746));have GE746:=zM ((Nat.le_trans HW0.1 (by rw [hg];exact (keep_size (w:=w) (g:=g) (row:=none) zB2):w.heap.size≤gb746):w0.heap.size≤gb746));replace HK:=zM (KeepBut.trans zB2 (KeepBut.of_below hb g none) (.inl rfl));have NB739_746:=zM ((zn BK739.1 hg:gb739≠gb746));have NB746_739:=zM ((zm BK739.1 hg:gb746≠gb739));replace BK739:=zM (zb BK739.1 hb);have NB0_746:=zM ((by rw [hg];exact Nat.ne_of_lt (IsS104.lt (show IsS104 w0 _ g s0_0 t744 t745 from zB98)):g≠gb746));have NB746_0:=zM ((by rw [hg];exact Nat.ne_of_gt (IsS104.lt (show IsS104 w0 _ g s0_0 t744 t745 from zB98)):gb746≠g));replace HI0:=zM (IsS104.below zB98 hb);clear hb hbox hg;have hnb47:=NB746_739.1;have hnc47:=NB739_746.1;have hnb48:=NB746_0.1;have hnc48:=NB0_746.1;have hcz49:=zc_5 (w:=w46) BK746.1)|((with_reducible refine zG Try.func43 10 #[.pointer (some ⟨g,0,none⟩),.int .i64 4] ?_);(with_reducible refine (spec_l1Below.calls g s0_0 t744 t745 4 t747 t748 t749 w0 _ ?side1 ?side2 A4.1).mono ?_);(case side1=>exact zB101);(case side2=>exact zB1);rintro e w50 ⟨rfl,hi,hb,hk⟩;refine ⟨_,rfl,?_⟩;replace BK739:=zM (KeepBut.blk hk (g':=gb739) (o:= .cells #[.int .i64 0,.int .i64 0,.int .i64 0,.int .i64 0,.int .i64 0] 74 (0,0)) zPq NB739_0.1 (by simp));replace BK746:=zM (KeepBut.blk hk (g':=gb746) (o:= .cells #[.int .i64 t740,.int .i64 t743,.int .i64 (-1),.int .i64 (-1),.int .i64 (-1)] 74 (0,0)) (by exact zp5 (zK BK746.1)) NB746_0.1 (by simp));replace HK:=zM (KeepBut.trans zB2 hk (.inl rfl));replace HB:=zM hb;replace HI0:=zM hi;clear hb hk hi)|((with_reducible refine zG Try.func43 30 #[.pointer (some ⟨g,0,none⟩),.int .i64 6] ?_);(with_reducible refine (spec_l1Below.calls g s0_0 t748 t749 6 t762 t763 t764 w0 _ ?side1 ?side2 A40.1).mono ?_);(case side1=>exact zB101);(case side2=>exact zB1);rintro e w51 ⟨rfl,hi,hb,hk⟩;refine ⟨_,rfl,?_⟩;replace BK739:=zM (zh hk BK739.1 NB739_0.1);replace BK746:=zM (zh hk BK746.1 NB746_0.1);replace HK:=zM (KeepBut.trans zB2 hk (.inl rfl));replace HB:=zM hb;replace HI0:=zM hi;clear hb hk hi;have hcz52:=zc_5 (w:=w51) BK746.1)|((with_reducible refine zG Try.func43 33 #[.pointer (some ⟨g,0,none⟩),.int .i64 4] ?_);(with_reducible refine (spec_l1Below.calls g s0_0 t763 t764 4 t765 t766 t767 w0 _ ?side1 ?side2 A41.1).mono ?_);(case side1=>exact zB101);(case side2=>exact zB1);rintro e w53 ⟨rfl,hi,hb,hk⟩;refine ⟨_,rfl,?_⟩;replace BK739:=zM (KeepBut.blk hk (g':=gb739) (o:= .cells #[.int .i64 0,.int .i64 0,.int .i64 0,.int .i64 0,.int .i64 0] 74 (0,0)) zPq NB739_0.1 (by simp));replace BK746:=zM (KeepBut.blk hk (g':=gb746) (o:= .cells #[.int .i64 t740,.int .i64 t743,.int .i64 t762,.int .i64 (-1),.int .i64 (-1)] 74 (0,0)) zPq NB746_0.1 (by simp));replace HK:=zM (KeepBut.trans zB2 hk (.inl rfl));replace HB:=zM hb;replace HI0:=zM hi;clear hb hk hi;have hcz54:=zc_5 (w:=w53) BK746.1)|((with_reducible refine zG Try.func43 36 #[.pointer (some ⟨g,0,none⟩),.int .i64 4] ?_);(with_reducible refine (spec_l1Below.calls g s0_0 t766 t767 4 t768 t769 t770 w0 _ ?side1 ?side2 A42.1).mono ?_);(case side1=>exact zB101);(case side2=>exact zB1);rintro e w55 ⟨rfl,hi,hb,hk⟩;refine ⟨_,rfl,?_⟩;replace BK739:=zM (KeepBut.blk hk (g':=gb739) (o:= .cells #[.int .i64 0,.int .i64 0,.int .i64 0,.int .i64 0,.int .i64 0] 74 (0,0)) zPq NB739_0.1 (by simp));replace BK746:=zM (KeepBut.blk hk (g':=gb746) (o:= .cells #[.int .i64 t740,.int .i64 t743,.int .i64 t762,.int .i64 t765,.int .i64 (-1)] 74 (0,0)) zPq NB746_0.1 (by simp));replace HK:=zM (KeepBut.trans zB2 hk (.inl rfl));replace HB:=zM hb;replace HI0:=zM hi;clear hb hk hi;have hcz56:=zc_5 (w:=w55) BK746.1;have hnb57:=NB739_0.1;have hnc57:=NB0_739.1;have hcz58:=zc_5 (w:=w55) BK739.1))
 refine bodyPost_ret (results_cell_row rfl _ _ gb739 74 #[.int .i64 t740,.int .i64 t743,.int .i64 t762,.int .i64 t765,.int .i64 t768] (0,0) _ rfl zPq Try.underlying74 rfl (by kernel_rfl)) rfl ?_
 exact ⟨zE,zB101,zB1,zB2⟩

end Go.Proofs.Ytaakcbgpmabaaaa.PFnSeen
