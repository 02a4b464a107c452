-- made by wip/tools/myprint.py out of the seat's translation
import Derived.Test.YtpcgecacaemalaaPFnStopsx0
import Derived.Test.YtpcgecacaemalaaPFnStopsx8
import Derived.Test.YtpcgecacaemalaaPFnStopsx9
import Derived.Test.YtpcgecacaemalaaPFnStopsx12
import Derived.Test.YtpcgecacaemalaaPFnStopsx13
namespace Go.Proofs.Ytpcgecacaemalaa.PFnStops
open Go.RowKit Go.Proofs.YtpcgecacaemalaaW.PrintWords Go.Proofs.YtpcgecacaemalaaW.PrintLast Go.Proofs.YtpcgecacaemalaaW.PrintMore
attribute [local go_sem] max2_int min2_int max_two min_two max_three min_three max_four min_four -- for this text's walks alone
set_option linter.unusedVariables false
set_option linter.unusedSimpArgs false
set_option maxHeartbeats 8000000
set_option maxRecDepth 100000

/-! ### impl_Trace: function 34 -/
mutual
def impl_Trace.j0:Nat→List Int→List (S53)→List Int→List (S57)→Bool→Option ((List (S57)))
 |0,_,_,_,_,_=>none
 |k+1,x0,x1,x2,x7,x18=>if x18=true then (some x7) else ((slices_Clone_int_int.f x0).bind fun t798=>((impl_copyHarts.f k x1).bind fun t801=>(impl_Trace.l0 k t798 t801 x7 x2 (x2.length:Int) 0)))
def impl_Trace.l0:Nat→List Int→List (S53)→List (S57)→List Int→Int→Int→Option ((List (S57)))
 |0,_,_,_,_,_,_=>none
 |k+1,x0,x1,x7,x24,x25,x26=>if x26<x25 then (if 0≤x26 then (if x26<(x24.length:Int) then ((impl_from.f (rd x24 x26) 0 (wrap64 ((x1.length:Int)-1))).bind fun t805=>(if t805=true then (if 0≤(rd x24 x26) then (if (rd x24 x26)<(x1.length:Int) then ((impl_goes.f k ((rd_T53 x1 (rd x24 x26)).f0) ((rd_T53 x1 (rd x24 x26)).f1) ((rd_T53 x1 (rd x24 x26)).f2)).bind fun t807=>(impl_Trace.j2 k x0 x1 x7 (rd x24 x26) x24 x25 x26 t807)) else (none)) else (none)) else (impl_Trace.j2 k x0 x1 x7 (rd x24 x26) x24 x25 x26 false))) else (none)) else (none)) else (some x7)
def impl_Trace.j2:Nat→List Int→List (S53)→List (S57)→Int→List Int→Int→Int→Bool→Option ((List (S57)))
 |0,_,_,_,_,_,_,_,_=>none
 |k+1,x0,x1,x7,x9,x24,x25,x26,x41=>if x41=true then (if 0≤x9 then (if x9<(x1.length:Int) then ((impl_eventOf.f k x0 ((rd_T53 x1 x9).f0) ((rd_T53 x1 x9).f1) ((rd_T53 x1 x9).f2) x9).bind fun bt809=>(if x7.length<3518437208883 then ((impl_step.f k x0 ((rd_T53 x1 x9).f0) ((rd_T53 x1 x9).f1) ((rd_T53 x1 x9).f2)).bind fun bt818=>(impl_Trace.l0 k bt818.2.2.2 (x1.set (x9:Int).toNat (⟨bt818.1,bt818.2.1,bt818.2.2.1⟩:S53)) (x7++[(⟨bt809.1,bt809.2.1,bt809.2.2.1,bt809.2.2.2.1,bt809.2.2.2.2⟩:S57)]) x24 x25 (wrap64 (x26+1)))) else (none))) else (none)) else (none)) else (impl_Trace.l0 k x0 x1 x7 x24 x25 (wrap64 (x26+1)))
end
def impl_Trace.f (k:Nat) (l0:List Int) (l1:List (S53)) (l2:List Int):Option ((List (S57))):=(some (([]:List (S57)):List (S57))).bind fun y794=>(if (l2.length:Int)>2000 then (impl_Trace.j0 k l0 l1 l2 y794 true) else ((impl_memOk.f k l0).bind fun t797=>(impl_Trace.j0 k l0 l1 l2 y794 (!t797))))
theorem impl_Trace.mono_l: ∀k,(∀y0 y1 y2 y3 y4,LeO (impl_Trace.j0 k y0 y1 y2 y3 y4) (impl_Trace.j0 (k+1) y0 y1 y2 y3 y4))∧(∀y0 y1 y2 y3 y4 y5,LeO (impl_Trace.l0 k y0 y1 y2 y3 y4 y5) (impl_Trace.l0 (k+1) y0 y1 y2 y3 y4 y5))∧(∀y0 y1 y2 y3 y4 y5 y6 y7,LeO (impl_Trace.j2 k y0 y1 y2 y3 y4 y5 y6 y7) (impl_Trace.j2 (k+1) y0 y1 y2 y3 y4 y5 y6 y7))
 |0=>⟨fun _ _ _ _ _ r h=>by simp [impl_Trace.j0] at h,fun _ _ _ _ _ _ r h=>by simp [impl_Trace.l0] at h,fun _ _ _ _ _ _ _ _ r h=>by simp [impl_Trace.j2] at h⟩
 |k+1=>by
  obtain ⟨ih0,ih1,ih2⟩:=impl_Trace.mono_l k
  refine ⟨?_,?_,?_⟩
  ·intros
   unfold impl_Trace.j0
   have mo0:=@impl_copyHarts.mono
   have mo1:=@impl_eventOf.mono
   have mo2:=@impl_goes.mono
   have mo3:=@impl_memOk.mono
   have mo4:=@impl_step.mono
   exact zL
  ·intros
   unfold impl_Trace.l0
   have mo0:=@impl_copyHarts.mono
   have mo1:=@impl_eventOf.mono
   have mo2:=@impl_goes.mono
   have mo3:=@impl_memOk.mono
   have mo4:=@impl_step.mono
   exact zL
  ·intros
   unfold impl_Trace.j2
   have mo0:=@impl_copyHarts.mono
   have mo1:=@impl_eventOf.mono
   have mo2:=@impl_goes.mono
   have mo3:=@impl_memOk.mono
   have mo4:=@impl_step.mono
   exact zL
theorem impl_Trace.mono: ∀a0 a1 a2 k,LeO (impl_Trace.f k a0 a1 a2) (impl_Trace.f (k+1) a0 a1 a2):=by
 intro a0 a1 a2 k
 obtain ⟨ih0,ih1,ih2⟩:=impl_Trace.mono_l k
 unfold impl_Trace.f
 have mo0:=@impl_copyHarts.mono
 have mo1:=@impl_eventOf.mono
 have mo2:=@impl_goes.mono
 have mo3:=@impl_memOk.mono
 have mo4:=@impl_step.mono
 exact zL
theorem impl_Trace.calls (k:Nat) (A0:Option Addr) (c0:Nat) (l0:List Int) (A1:Option Addr) (c1:Nat) (l1:List (S53)) (A2:Option Addr) (c2:Nat) (l2:List Int) (r:List (S57)) (w:World) (hr0:Kd.C (Kd.int .i64) w A0 l0.length l0) (hc0:l0.length≤c0) (hr1:Kd.C k53 w A1 l1.length l1) (hc1:l1.length≤c1) (hr2:Kd.C (Kd.int .i64) w A2 l2.length l2) (hc2:l2.length≤c2) (h:impl_Trace.f k l0 l1 l2=some r):
  Calls Try.prog 34 #[.slice A0 l0.length c0,.slice A1 l1.length c1,.slice A2 l2.length c2] w fun e w'=>∃v0_:Value,e= .returned (v0_)∧Kd.R k57 57 w' w.heap.size (fun _=>True) v0_ r∧Below w.heap.size w w':=by
 have hu53:=Try.underlying53
 have HR0:=zM hr0
 have HC0:=zM hc0
 clear hr0 hc0
 have HR1:=zM hr1
 have HC1:=zM hc1
 clear hr1 hc1
 have HR2:=zM hr2
 have HC2:=zM hc2
 clear hr2 hc2
 have HB:=zM (Below.refl w.heap.size w)
 unfold impl_Trace.f at h
 have H:=h
 clear h
 replace H:=zY H
 obtain ⟨y794,Ny794,H⟩:=H
 have HC4:=zM H
 clear H
 go_enter Try.func34,Try.ntmps34
 go_upto_region 2 with (first|((with_reducible refine gate_dst (N:=10) rfl ?_);refine Kd.R_lit k57 _ 57 ?hg (N:=10) ?hd (xs:=([]:List (S57))) (inner:=[]) (ok:=fun _=>True) (okp:=fun _=>True) ?hr ?hp (fun _ hk=>hk) trivial (Below.refl _ _) (Nat.le_refl _) (by simp) ?_;(case hd=>rfl);(case hg=>rfl);(case hr=>exact zHH);(case hp=>exact (Reps.none _ _));intro v795 w5 ho6 hb hg_ hnew_;clear hg_ hnew_;(first|rw [←Ny794.1] at ho6|(simp only [Int.reduceToNat] at ho6;rw [←Ny794.1] at ho6));have HO796:=zM (Kd.R_lower ho6 (below_size zB0));replace HB:=zM (below_step zB0 hb);clear hb ho6))
 (try simp only [Act.put,List.setIfInBounds_toArray,List.set_cons_zero,List.set_cons_succ])
 go_cut [18] (fun v18 wc=>∃(kq:Nat) (x18_3:Bool),v18= .bool x18_3∧Aside0 (impl_Trace.j0 kq l0 l1 l2 y794 x18_3=some r)∧Aside0 (kq≤k)∧Aside0 (Kd.R k57 57 wc w.heap.size (fun _=>True) v795 y794)∧Aside0 (Below w.heap.size w wc))
 case first=>
  have H:=HC4.1
  clear HC4
  by_cases c7:(l2.length:Int)>2000
  ·rw [if_pos c7] at H
   have c7b0:=decide_eq_true c7
   have c7b1:decide (2000<l2.length)=true:=decide_eq_true (by omega)
   clear c7
   (first|rw [c7b0]|(simp only [i64_w,i32_w];rw [c7b0])|skip)
   have H':=zM H
   clear H
   go_wp2
   go_meet
   case rel=>exact ⟨_,(true),zJJ,H',⟨by first|omega|exact Nat.le_refl _⟩,⟨zR HO796.1⟩,⟨zB0⟩⟩
  rw [if_neg c7] at H
  have c7b0:=decide_eq_false c7
  have c7b1:decide (2000<l2.length)=false:=decide_eq_false (by omega)
  clear c7
  (first|rw [c7b0]|(simp only [i64_w,i32_w];rw [c7b0])|skip)
  replace H:=zO H
  obtain ⟨t797,A8,H⟩:=H
  have H':=zM H
  clear H
  go_wp2_with (first|(go_at_call 61;(with_reducible refine (impl_memOk.calls k _ _ l0 t797 _ ?side1 ?side2 A8.1).mono ?_);(case side1=>exact zC (Kd.C_below HR0.1 HB.1));(case side2=>exact HC0.1);rintro e w' ⟨rfl,⟨nd,rfl⟩⟩))
  go_meet
  case rel=>exact ⟨_,(!t797),zJJ,H',⟨by first|omega|exact Nat.le_refl _⟩,⟨zR HO796.1⟩,⟨zB0⟩⟩
 case rest=>
  clear HC4
  obtain ⟨kq,x18_3,rfl,HA,HJ3,HO_7,HB⟩:=hcut
  cases kq with
  |zero=>exact absurd HA.1 (by simp [impl_Trace.j0])
  |succ kj3=>
   have H:=HA.1
   clear HA
   simp only [impl_Trace.j0] at H
   by_cases c9:x18_3=true
   ·subst c9
    rw [if_pos rfl] at H
    obtain rfl:=Option.some.inj H
    go_wp2
    go_ret
    exact ⟨_,zE,zR HO_7.1,zB0⟩
   replace c9:=Bool.eq_false_iff.mpr c9
   subst c9
   rw [if_neg zF] at H
   replace H:=zO H
   obtain ⟨t798,A10,H⟩:=H
   replace H:=zO H
   obtain ⟨t801,A11,H⟩:=H
   have H':=zM H
   clear H
   go_wp2_with (first|((with_reducible refine zG Try.func59 21 #[.slice A0 l0.length c0] ?_);(with_reducible refine (slices_Clone_int_int.calls _ _ l0 t798 _ ?side1 ?side2 A10.1).mono ?_);(case side1=>exact zC (Kd.C_below HR0.1 HB.1));(case side2=>exact HC0.1);rintro e w12 ⟨v799,rfl,ho0,hb⟩;refine ⟨_,rfl,?_⟩;replace HO_7:=zM (Kd.R_below (zR HO_7.1) hb);have HO800:=zM (Kd.R_lower ho0 (below_size zB0));replace HB:=zM (below_step zB0 hb);clear hb ho0)|((with_reducible refine zG Try.func60 23 #[.slice A1 l1.length c1] ?_);(with_reducible refine (impl_copyHarts.calls kj3 _ _ l1 t801 _ ?side1 ?side2 A11.1).mono ?_);(case side1=>exact zC (Kd.C_below HR1.1 HB.1));(case side2=>exact HC1.1);rintro e w13 ⟨v802,rfl,ho0,hb⟩;refine ⟨_,rfl,?_⟩;replace HO_7:=zM (Kd.R_below (zR HO_7.1) hb);have HO803:=zM (Kd.S_lower (Kd.S_new' ho0 (Kd.R_lt (zR HO800.1))) (below_size zB0));replace HO800:=zM (Kd.R_below (zR HO800.1) hb);replace HB:=zM (below_step zB0 hb);clear hb ho0))
   go_loopg [7,26] kj3 (fun kq v7 v26 w'=>∃(x0_2:List Int) (x1_2:List (S53)) (x7_2:List (S57)) (x26_2:Int),v26= .int .i64 x26_2∧Aside0 (impl_Trace.l0 kq x0_2 x1_2 x7_2 l2 (l2.length:Int) x26_2=some r)∧Aside0 (kq≤kj3)∧Aside0 (Kd.R (Kd.int .i64) 3 w' w.heap.size (fun _=>True) v799 x0_2)∧Aside0 (Kd.S k53 53 w' w.heap.size (fun k_=>some k_≠(v799:Value).ownBlock) v802 x1_2)∧Aside0 (Kd.R k57 57 w' w.heap.size (fun _=>True) v7 x7_2)∧Aside0 (Below w.heap.size w w'))
   case atStart=>exact ⟨(t798),(t801),(y794),(0),zJJ,H',⟨Nat.le_refl _⟩,⟨zR HO800.1⟩,⟨by refine zrS ?_;exact Kd.S_mono HO803.1 (fun _ hk=>hk.2)⟩,⟨zR HO_7.1⟩,⟨zB0⟩⟩
   case round=>
    clear H'
    obtain ⟨x0_2,x1_2,x7_2,x26_2,rfl,HA,HK2,HO_0,HO_1,HO_7,HB⟩:=hrel
    cases gk with
    |zero=>exact absurd HA.1 (by simp [impl_Trace.l0])
    |succ k2=>
     have H:=HA.1
     clear HA
     simp only [impl_Trace.l0] at H
     by_cases c14:x26_2<(l2.length:Int)
     rotate_left
     ·rw [if_neg c14] at H
      have c14b0:=decide_eq_false c14
      clear c14
      obtain rfl:=Option.some.inj H
      go_wp2
      go_ret
      exact ⟨_,zE,zR HO_7.1,zB0⟩
     rw [if_pos c14] at H
     have c14b0:=decide_eq_true c14
     clear c14
     replace H:=zIt H
     obtain ⟨c15b0,H⟩:=H
     replace H:=zIt H
     obtain ⟨c16b0,H⟩:=H
     have HC17:=zM H
     clear H
     obtain ⟨p804,q804,ad804,e804,hx804_0⟩:=zRd (Kd.at_int HR2.1 x26_2)
     cases e804
     replace hx804_0:=zHx HB.1 hx804_0
     go_upto_region 9 with (fail)
     go_cut [41] (fun v41 wc=>∃(kq:Nat) (x41_16:Bool),v41= .bool x41_16∧Aside0 (impl_Trace.j2 kq x0_2 x1_2 x7_2 (rd l2 x26_2) l2 (l2.length:Int) x26_2 x41_16=some r)∧Aside0 (kq≤k2)∧Aside0 (Kd.R (Kd.int .i64) 3 wc w.heap.size (fun _=>True) v799 x0_2)∧Aside0 (Kd.S k53 53 wc w.heap.size (fun k_=>some k_≠(v799:Value).ownBlock) v802 x1_2)∧Aside0 (Kd.R k57 57 wc w.heap.size (fun _=>True) u7 x7_2)∧Aside0 (Below w.heap.size w wc))
     case first=>
      have H:=HC17.1
      clear HC17
      replace H:=zO H
      obtain ⟨t805,A18,H⟩:=H
      by_cases c19:t805=true
      rotate_left
      ·replace c19:=Bool.eq_false_iff.mpr c19
       subst c19
       rw [if_neg zF] at H
       have H':=zM H
       clear H
       obtain ⟨Ao25,co25,eo25⟩:=Kd.S_slice HO_1.1
       subst eo25
       go_wp2_with (first|((with_reducible refine zG Try.func62 34 #[.int .i64 (rd l2 x26_2),.int .i64 0,.int .i64 (wrap64 ((x1_2.length:Int)-1))] ?_);(with_reducible refine (impl_from.calls (rd l2 x26_2) 0 (wrap64 ((x1_2.length:Int)-1)) false _ A18.1).mono ?_);rintro e w' ⟨rfl,⟨nd,rfl⟩⟩;refine ⟨_,rfl,?_⟩))
       go_meet
       case rel=>exact ⟨_,(false),zJJ,H',⟨by have:=HJ3.1;have:=HK2.1;first|omega|exact Nat.le_refl _⟩,⟨zR HO_0.1⟩,⟨zS HO_1.1⟩,⟨zR HO_7.1⟩,⟨zB0⟩⟩
      subst c19
      rw [if_pos rfl] at H
      replace H:=zIt H
      obtain ⟨c20b0,H⟩:=H
      (first|rw [c20b0]|(simp only [i64_w,i32_w];rw [c20b0])|skip)
      replace H:=zIt H
      obtain ⟨c21b0,H⟩:=H
      replace H:=zO H
      obtain ⟨t807,A22,H⟩:=H
      have H':=zM H
      clear H
      obtain ⟨Ao23,co23,eo23⟩:=Kd.S_slice HO_1.1
      subst eo23
      go_wp2_with (first|((with_reducible refine zG Try.func62 34 #[.int .i64 (rd l2 x26_2),.int .i64 0,.int .i64 (wrap64 ((x1_2.length:Int)-1))] ?_);(with_reducible refine (impl_from.calls (rd l2 x26_2) 0 (wrap64 ((x1_2.length:Int)-1)) true _ A18.1).mono ?_);rintro e w' ⟨rfl,⟨nd,rfl⟩⟩;refine ⟨_,rfl,?_⟩;obtain ⟨p806,q806,ad806,A806_0,c806_0,e806,hx806_0,hx806_1,hx806_2,hl806_0,hi806_0⟩:=zRd (at_T53 (Kd.S_reads' HO_1.1).2.2 (rd l2 x26_2));cases e806;obtain ⟨ce806,hce806,hMe806,hcc806⟩:=Kd.S_get HO_1.1 z53 (rd l2 x26_2) zA (by first|exact zA|(have e_:=(Kd.S_reads' HO_1.1).1;omega));obtain ⟨ve806_0,rfl,ge806_0⟩:=k53_openM hMe806;have hv806_0:=hcc806 0 _ rfl;rw [Nat.add_zero] at hv806_0;replace hv806_0:=Option.some.inj (hv806_0.symm.trans hx806_0);rw [hv806_0] at ge806_0;have HL806_0:=zM (show Kd.R (Kd.int .i64) 3 _ _ _ _ ((rd_T53 x1_2 (rd l2 x26_2)).f0) from ge806_0);clear hv806_0 ge806_0;clear hcc806 hce806;have HR806_0:=zM hi806_0;have HC806_0:=zM hl806_0;clear hi806_0 hl806_0)|(go_at_call 63;(with_reducible refine (impl_goes.calls k2 _ _ ((rd_T53 x1_2 (rd l2 x26_2)).f0) ((rd_T53 x1_2 (rd l2 x26_2)).f1) ((rd_T53 x1_2 (rd l2 x26_2)).f2) t807 _ ?side1 ?side2 A22.1).mono ?_);(case side1=>exact zC HR806_0.1);(case side2=>exact HC806_0.1);rintro e w24 ⟨rfl,hb⟩;replace HO_0:=zM (Kd.R_below (zR HO_0.1) hb);replace HO_1:=zM (Kd.S_below (zS HO_1.1) hb);replace HO_7:=zM (Kd.R_below (zR HO_7.1) hb);replace HL806_0:=zM (Kd.R_below (zR HL806_0.1) hb);replace HR806_0:=zM (Kd.C_below (zC HR806_0.1) hb);replace HB:=zM (below_step zB0 hb);clear hb))
      go_meet
      case rel=>exact ⟨_,(t807),zJJ,H',⟨by have:=HJ3.1;have:=HK2.1;first|omega|exact Nat.le_refl _⟩,⟨zR HO_0.1⟩,⟨zS HO_1.1⟩,⟨zR HO_7.1⟩,⟨zB0⟩⟩
     case rest=>
      clear HC17
      obtain ⟨kq,x41_16,rfl,HA,HJ16,HO_0,HO_1,HO_7,HB⟩:=hcut
      cases kq with
      |zero=>exact absurd HA.1 (by simp [impl_Trace.j2])
      |succ kj16=>
       have H:=HA.1
       clear HA
       simp only [impl_Trace.j2] at H
       by_cases c26:x41_16=true
       rotate_left
       ·replace c26:=Bool.eq_false_iff.mpr c26
        subst c26
        rw [if_neg zF] at H
        have H':=zM H
        clear H
        go_wp2
        go_roundg kj16
        case measure=>have:=HJ3.1;have:=HK2.1;have:=HJ16.1;omega
        case rel=>exact ⟨(x0_2),(x1_2),(x7_2),(wrap64 (x26_2+1)),zJJ,H',⟨by have:=HJ3.1;have:=HK2.1;have:=HJ16.1;omega⟩,⟨zR HO_0.1⟩,⟨zS HO_1.1⟩,⟨zR HO_7.1⟩,⟨zB0⟩⟩
       subst c26
       rw [if_pos rfl] at H
       replace H:=zIt H
       obtain ⟨c27b0,H⟩:=H
       replace H:=zIt H
       obtain ⟨c28b0,H⟩:=H
       replace H:=zO H
       obtain ⟨⟨t809,t810,t811,t812,t813⟩,A29,H⟩:=H
       try dsimp only at H
       replace H:=zIn H
       obtain ⟨LMc30,H⟩:=H
       generalize hy814:((x7_2++[(⟨t809,t810,t811,t812,t813⟩:S57)]):List (S57))=y814 at H
       have Ny814:=zM hy814.symm
       clear hy814
       replace H:=zO H
       obtain ⟨⟨t818,t821,t822,t823⟩,A31,H⟩:=H
       try dsimp only at H
       generalize hy824:((x1_2.set ((rd l2 x26_2):Int).toNat (⟨t818,t821,t822⟩:S53)):List (S53))=y824 at H
       have Ny824:=zM hy824.symm
       clear hy824
       have H':=zM H
       clear H
       obtain ⟨Ao33,co33,eo33⟩:=Kd.S_slice HO_1.1
       subst eo33
       obtain ⟨p808,q808,ad808,A808_0,c808_0,e808,hx808_0,hx808_1,hx808_2,hl808_0,hi808_0⟩:=zRd (at_T53 (Kd.S_reads' HO_1.1).2.2 (rd l2 x26_2))
       cases e808
       obtain ⟨ce808,hce808,hMe808,hcc808⟩:=Kd.S_get HO_1.1 z53 (rd l2 x26_2) zA (by first|exact zA|(have e_:=(Kd.S_reads' HO_1.1).1;omega))
       obtain ⟨ve808_0,rfl,ge808_0⟩:=k53_openM hMe808
       have hv808_0:=hcc808 0 _ rfl
       rw [Nat.add_zero] at hv808_0
       replace hv808_0:=Option.some.inj (hv808_0.symm.trans hx808_0)
       rw [hv808_0] at ge808_0
       have HL808_0:=zM (show Kd.R (Kd.int .i64) 3 _ _ _ _ ((rd_T53 x1_2 (rd l2 x26_2)).f0) from ge808_0)
       clear hv808_0 ge808_0 hcc808 hce808
       have HR808_0:=zM hi808_0
       have HC808_0:=zM hl808_0
       clear hi808_0 hl808_0
       obtain ⟨Ao34,co34,eo34⟩:=Kd.R_slice HO_0.1
       subst eo34
       go_wp2_with (first|((with_reducible refine zG Try.func65 49 #[.slice Ao34 x0_2.length co34,.agg #[.slice A808_0 ((rd_T53 x1_2 (rd l2 x26_2)).f0).length c808_0,.int .i64 ((rd_T53 x1_2 (rd l2 x26_2)).f1),.int .i64 ((rd_T53 x1_2 (rd l2 x26_2)).f2)],.int .i64 (rd l2 x26_2)] ?_);(with_reducible refine (impl_eventOf.calls kj16 _ _ x0_2 _ _ ((rd_T53 x1_2 (rd l2 x26_2)).f0) ((rd_T53 x1_2 (rd l2 x26_2)).f1) ((rd_T53 x1_2 (rd l2 x26_2)).f2) (rd l2 x26_2) t809 t810 t811 t812 t813 _ ?side1 ?side2 ?side3 ?side4 A29.1).mono ?_);(case side1=>exact zC (Kd.R_reads' HO_0.1).2.2);(case side2=>exact (Kd.R_reads' HO_0.1).2.1);(case side3=>exact zC HR808_0.1);(case side4=>exact HC808_0.1);rintro e w35 ⟨rfl,hb⟩;refine ⟨_,rfl,?_⟩;replace HO_0:=zM (Kd.R_below (zR HO_0.1) hb);replace HO_1:=zM (Kd.S_below (zS HO_1.1) hb);replace HO_7:=zM (Kd.R_below (zR HO_7.1) hb);replace HL808_0:=zM (Kd.R_below (zR HL808_0.1) hb);replace HR808_0:=zM (Kd.C_below (zC HR808_0.1) hb);replace HB:=zM (below_step zB0 hb);clear hb)|((with_reducible refine gate_builtin (b:= .append) (xs:=#[.tmp 42,.tmp 50]) rfl ?_);at_builtin;refine Kd.R_append k57 (w0:=w) w.heap.size rfl (.tmp 42) (.tmp 50) 54 57 (.agg #[(.int .i64 0),(.int .i64 0),(.int .i64 0),(.int .i64 0),(.int .i64 0)]) 40 rfl Try.underlying54 info57 rfl (by decide) (by omega) u7 x7_2 (⟨t809,t810,t811,t812,t813⟩:S57) [.int .i64 t809,.int .i64 t810,.int .i64 t811,.int .i64 t812,.int .i64 t813] (fun _=>True) (fun _=>False) rfl rfl ?aP (fun _ hk=>hk.elim) ?aF ?aO ?aB ?aS ?aL ?_;(case aP=>exact k57_mkM _ _ _ (⟨t809,t810,t811,t812,t813⟩:S57));(case aB=>exact zB0);(case aF=>exact (fun _ _=>trivial));(case aO=>exact (zR HO_7.1));(case aS=>exact (below_size zB0));(case aL=>have:=LMc30.out;omega);intro v815 w36 ho hb hg hat;rw [←Ny814.1] at ho;replace HO_0:=zM (Kd.R_over' (zR HO_0.1) (Kd.R_typed (zR HO_7.1)) (by decide) hg);replace HO_1:=zM (Kd.S_over' (zS HO_1.1) (Kd.R_typed (zR HO_7.1)) (by decide) hg);replace HL808_0:=zM (Kd.R_over' (zR HL808_0.1) (Kd.R_typed (zR HO_7.1)) (by decide) hg);replace HB:=zM hb;have HO816:=zM ho;clear HO_7;clear ho hb hg hat;have p817:0≤((rd l2 x26_2):Int):=zA;have q817:(rd l2 x26_2)<(x1_2.length:Int):=zA;obtain ⟨ad817,A817_0,c817_0,e817,hx817_0,hx817_1,hx817_2,hl817_0,hi817_0⟩:=at_T53 (Kd.S_reads' HO_1.1).2.2 (rd l2 x26_2) p817 q817;obtain rfl:ad808=ad817:=(by injection e817);obtain ⟨ce817,hce817,hMe817,hcc817⟩:=Kd.S_get HO_1.1 z53 (rd l2 x26_2) p817 (by first|exact q817|exact zA|(have e_:=(Kd.S_reads' HO_1.1).1;omega));obtain ⟨ve817_0,rfl,ge817_0⟩:=k53_openM hMe817;have hv817_0:=hcc817 0 _ rfl;rw [Nat.add_zero] at hv817_0;replace hv817_0:=Option.some.inj (hv817_0.symm.trans hx817_0);rw [hv817_0] at ge817_0;have HL817_0:=zM (show Kd.R (Kd.int .i64) 3 _ _ _ _ ((rd_T53 x1_2 (rd l2 x26_2)).f0) from ge817_0);clear hv817_0 ge817_0;clear hcc817 hce817;have HR817_0:=zM hi817_0;have HC817_0:=zM hl817_0;clear hi817_0 hl817_0;replace p817:=eq_true p817;replace q817:=eq_true q817)|((with_reducible refine zG Try.func66 59 #[.slice Ao34 x0_2.length co34,.agg #[.slice A817_0 ((rd_T53 x1_2 (rd l2 x26_2)).f0).length c817_0,.int .i64 ((rd_T53 x1_2 (rd l2 x26_2)).f1),.int .i64 ((rd_T53 x1_2 (rd l2 x26_2)).f2)]] ?_);(with_reducible refine (impl_step.calls kj16 (fun k_=>some k_=(.slice Ao34 x0_2.length co34:Value).ownBlock) (.slice Ao34 x0_2.length co34) x0_2 _ _ ((rd_T53 x1_2 (rd l2 x26_2)).f0) ((rd_T53 x1_2 (rd l2 x26_2)).f1) ((rd_T53 x1_2 (rd l2 x26_2)).f2) t818 t821 t822 t823 w _ ?side1 ?side2 ?side3 ?side4 A31.1).mono ?_);(case side1=>exact zB0);(case side2=>exact Kd.R_tight rfl HO_0.1);(case side3=>exact Kd.C_kept_own (HL817_0.1) (fun k_ hk_ hs_=>(hk_.1) hs_));(case side4=>exact HC817_0.1);rintro e w37 ⟨v819,rfl,ho0,hy0,hb,hkp⟩;refine ⟨_,rfl,?_⟩;replace HO_1:=zM (Kd.S_mono (ok':=fun k_=>some k_≠(.slice Ao34 x0_2.length co34:Value).ownBlock∧some k_≠(v819:Value).ownBlock) (Kd.S_keptB (HO_1.1) hkp (fun k_ hk_ hs_=>(hk_) hs_)) (fun k_ hk_=>⟨hk_.1,fun e_=>Or.elim (ho0.1 k_ e_.symm).1 (fun hs_=>hk_.2.1 hs_) (fun hn_=>Nat.not_le.2 hk_.2.2 hn_)⟩));replace HO816:=zM (Kd.R_mono (ok':=fun k_=>True) (Kd.R_keptB ((Kd.R_apart' HO816.1 (Kd.R_typed HO_0.1) (by decide))) hkp (fun k_ hk_ hs_=>(hk_.2) hs_)) (fun k_ hk_=>trivial));replace HO_0:=zM (Kd.R_reok rfl hy0 (fun k_ e_=>HO_0.1.1 k_ e_));have HO820:=zM (Kd.R_mono (ok':=fun k_=>some k_≠(.slice Ao34 x0_2.length co34:Value).ownBlock) ho0 (fun k_ hk_=>hk_.2));replace HB:=zM hb;clear HL808_0 HL817_0;clear hb hkp ho0 hy0;have p32:0≤((rd l2 x26_2):Int):=zA;have q32:((rd l2 x26_2):Int)<((x1_2.length:Int):Int):=zA;obtain ⟨go32,co32,eo32,gb32,gl32,cl32,HG32⟩:=Kd.S_form HO_1.1 (by omega);(first|cases eo32|(injection eo32 with ea_ en_ ec_;(first|subst ea_|(injection ea_ with ea_;subst ea_));subst ec_;clear en_));have GB32:=zM gb32;have GG32:=zM HG32;clear gb32 gl32 HG32;(first|simp only [add_plain] at hx808_0|skip);(first|simp only [add_plain] at hx808_1|skip);(first|simp only [add_plain] at hx808_2|skip);(first|simp only [add_plain] at hx817_0|skip);(first|simp only [add_plain] at hx817_1|skip);(first|simp only [add_plain] at hx817_2|skip);obtain ⟨_,ce32,hcl32,hM32,hcc32,hfr32,_,_⟩:=Kd.S_elem HO_1.1 z53 ((rd l2 x26_2):Int) p32 q32;obtain ⟨ve32_0,rfl,ge32_0⟩:=k53_openM hM32;have hx32_0:w37.cell? ⟨go32,((rd l2 x26_2):Int).toNat*3,none⟩=some (ve32_0):=hcc32 0 _ rfl;have hx32_1:w37.cell? ⟨go32,((rd l2 x26_2):Int).toNat*3+1,none⟩=some (.int .i64 ((rd_T53 x1_2 (rd l2 x26_2)).f1)):=hcc32 1 _ rfl;have hx32_2:w37.cell? ⟨go32,((rd l2 x26_2):Int).toNat*3+2,none⟩=some (.int .i64 ((rd_T53 x1_2 (rd l2 x26_2)).f2)):=hcc32 2 _ rfl;have hf32_0:w37.frozen? ⟨go32,((rd l2 x26_2):Int).toNat*3,none⟩=false:=hfr32 0;have hf32_1:w37.frozen? ⟨go32,((rd l2 x26_2):Int).toNat*3+1,none⟩=false:=hfr32 1;have hf32_2:w37.frozen? ⟨go32,((rd l2 x26_2):Int).toNat*3+2,none⟩=false:=hfr32 2;clear hcl32 hcc32 hfr32 hM32;replace p32:=eq_true p32;replace q32:=eq_true q32;obtain ⟨Ao38,co38,eo38⟩:=Kd.R_slice HO820.1;subst eo38;have HX39:=zM (show Kd.S k53 53 w37 w.heap.size (fun k_=>((fun k_=>some k_≠(.slice Ao34 x0_2.length co34:Value).ownBlock)) k_∧¬((fun k_=>some k_=(.slice Ao38 t818.length co38:Value).ownBlock)) k_) (.slice (some ⟨go32,0,none⟩) x1_2.length co33) x1_2 from (by refine zrS ?_;exact Kd.S_mono HO_1.1 (fun k_ hk=>⟨hk.1,fun e_=>hk.2 e_⟩)));obtain ⟨oki39,ce39,hcl39,hM39,hcc39,hfr39,hoki39,hH39⟩:=Kd.S_elem HX39.out z53 ((rd l2 x26_2):Int) zA (by have h_:((rd l2 x26_2):Int)<((x1_2.length:Int):Int):=zA;first|exact h_|(have e_:=(Kd.S_reads' HO_1.1).1;omega)|simpa using h_);obtain ⟨ve39_0,rfl,ge39_0⟩:=k53_openM hM39;have HP39:=Kd.S_seg hH39 zA (by have h_:((rd l2 x26_2):Int)<((x1_2.length:Int):Int):=zA;first|exact h_|(have e_:=(Kd.S_reads' HO_1.1).1;omega)|simpa using h_) (seg:=[.slice Ao38 t818.length co38,.int .i64 t821,.int .i64 t822]) (j:=0) (show 3≤3 from by decide) (x':=(⟨t818,t821,t822⟩:S53)) (k53_mkM _ _ _ (⟨t818,t821,t822⟩:S53) (Kd.R_mono (Kd.R_tight rfl (Kd.R_mono (ok':=fun k_=>((fun k_=>some k_≠(.slice Ao34 x0_2.length co34:Value).ownBlock)) k_∧k_≠go32) (Kd.R_apart' (HO820.1) (Kd.S_typed HO_1.1) (by decide)) (fun k_ hk=>⟨hk.1,fun e_=>(hk.2) (by rw [e_];rfl)⟩))) (fun _ h_=>Or.inr (h_)))) (fun _ hk=>hk) (fun k_ hk_=>((Kd.R_mono (ok':=fun k_=>((fun k_=>some k_≠(.slice Ao34 x0_2.length co34:Value).ownBlock)) k_∧k_≠go32) (Kd.R_apart' (HO820.1) (Kd.S_typed HO_1.1) (by decide)) (fun k_ hk=>⟨hk.1,fun e_=>(hk.2) (by rw [e_];rfl)⟩))).1 k_ hk_.symm);have hx39_0:=hcc39 0 _ rfl;(try simp only [show (k53).sz=3 from rfl,Nat.mul_one,Nat.add_zero] at hx39_0);have hf39_0:=hfr39 0;(try simp only [show (k53).sz=3 from rfl,Nat.mul_one,Nat.add_zero] at hf39_0);have hx39_1:=hcc39 1 _ rfl;(try simp only [show (k53).sz=3 from rfl,Nat.mul_one,Nat.add_zero] at hx39_1);have hf39_1:=hfr39 1;(try simp only [show (k53).sz=3 from rfl,Nat.mul_one,Nat.add_zero] at hf39_1);have hx39_2:=hcc39 2 _ rfl;(try simp only [show (k53).sz=3 from rfl,Nat.mul_one,Nat.add_zero] at hx39_2);have hf39_2:=hfr39 2;(try simp only [show (k53).sz=3 from rfl,Nat.mul_one,Nat.add_zero] at hf39_2);clear hcl39 hcc39 hfr39 hM39 hoki39 hH39)|((with_reducible refine gate_store (t:=53) (p:=60) rfl ?_);refine store_event (t:=53) (p:=60) (v:=?vo_w40) (w1:=(((w37.setCell ⟨go32,((rd l2 x26_2):Int).toNat*3,none⟩ (.slice Ao38 t818.length co38)).setCell ⟨go32,((rd l2 x26_2):Int).toNat*3+1,none⟩ (.int .i64 t821)).setCell ⟨go32,((rd l2 x26_2):Int).toNat*3+2,none⟩ (.int .i64 t822))) ?hg ?ho ?hn ?hr ?_;(case ho=>rfl);(case hg=>rfl);(case hn=>rfl);(case hr=>exact zHH);intro w40 hw;have hg:w37.grownBy w40 (some go32):=(by rw [hw];exact HP39.2);have hp_:Kd.S k53 53 w40 w.heap.size (fun k_=>some k_≠(.slice Ao34 x0_2.length co34:Value).ownBlock) (.slice (some ⟨go32,0,none⟩) x1_2.length co33) y824:=(by rw [hw,Ny824.1];exact HP39.1);clear HP39;replace HO_0:=zM (Kd.R_over' (v:=(.slice (some ⟨go32,0,none⟩) x1_2.length co33)) (zR HO_0.1) (Kd.S_typed HO_1.1) (by decide) hg);replace HO816:=zM (Kd.R_over' (v:=(.slice (some ⟨go32,0,none⟩) x1_2.length co33)) (zR HO816.1) (Kd.S_typed HO_1.1) (by decide) hg);replace HO_1:=zM hp_;replace HB:=zM ((by rw [hw];exact below_set (below_set (below_set (HB.1) GB32.1) GB32.1) GB32.1:Below w.heap.size w w40));clear HO820;clear hg hw hp_))
       go_roundg kj16
       case measure=>have:=HJ3.1;have:=HK2.1;have:=HJ16.1;omega
       case rel=>exact ⟨(t823),(y824),(y814),(wrap64 (x26_2+1)),zJJ,H',⟨by have:=HJ3.1;have:=HK2.1;have:=HJ16.1;omega⟩,⟨zR HO_0.1⟩,⟨zS HO_1.1⟩,⟨zR HO816.1⟩,⟨zB0⟩⟩

end Go.Proofs.Ytpcgecacaemalaa.PFnStops
