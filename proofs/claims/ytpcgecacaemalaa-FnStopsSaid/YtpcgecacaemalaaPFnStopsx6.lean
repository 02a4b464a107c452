-- made by wip/tools/myprint.py out of the seat's translation
import Derived.Test.YtpcgecacaemalaaPFnStopsx0
import Derived.Test.YtpcgecacaemalaaPFnStopsx2
import Derived.Test.YtpcgecacaemalaaPFnStopsx4
import Derived.Test.YtpcgecacaemalaaPFnStopsx5
namespace Go.Proofs.Ytpcgecacaemalaa.PFnStops
open Go.RowKit Go.Proofs.YtpcgecacaemalaaW.PrintWords Go.Proofs.YtpcgecacaemalaaW.PrintLast Go.Proofs.YtpcgecacaemalaaW.PrintMore
attribute [local go_sem] max2_int min2_int max_two min_two max_three min_three max_four min_four -- for this text's walks alone
set_option linter.unusedVariables false
set_option linter.unusedSimpArgs false
set_option maxHeartbeats 8000000
set_option maxRecDepth 100000

/-! ### spec_l9DrawMem: function 89 -/
mutual
def spec_l9DrawMem.l0:Nat→List Int→Int→List Int→Int→Int→Option (List Int×Int×Int)
 |0,_,_,_,_,_=>none
 |k+1,x3,x4,x1000,x1001,x1002=>if x4<24 then ((spec_l8DrawIns.f k x1000 x1001 x1002).bind fun bt251=>((spec_Code.f bt251.1 bt251.2.1 bt251.2.2.1 bt251.2.2.2.1 bt251.2.2.2.2.1).bind fun bt258=>(if x4>15 then ((spec_l1PickInt.f x1000 bt251.2.2.2.2.2.1 bt251.2.2.2.2.2.2 (([0,1,5,65535]:List Int))).bind fun bt263=>(if x3.length<17592186044416 then (spec_l9DrawMem.l0 k (x3++[bt263.1]) (wrap64 (x4+1)) x1000 bt263.2.1 bt263.2.2) else (none))) else ((spec_l1Once.f x1000 bt251.2.2.2.2.2.1 bt251.2.2.2.2.2.2 9).bind fun bt269=>(if bt269.1=true then ((spec_l1PickInt.f x1000 bt269.2.1 bt269.2.2 (([0,1,5,65535]:List Int))).bind fun bt275=>(if x3.length<17592186044416 then (spec_l9DrawMem.l0 k (x3++[bt275.1]) (wrap64 (x4+1)) x1000 bt275.2.1 bt275.2.2) else (none))) else (if x3.length<17592186044416 then (spec_l9DrawMem.l0 k (x3++[bt258.1]) (wrap64 (x4+1)) x1000 bt269.2.1 bt269.2.2) else (none))))))) else ((spec_l1Below.f x1000 x1001 x1002 4).bind fun bt284=>(if bt284.1=0 then (spec_l9DrawMem.l1 k x3 (([(⟨1,1,0,0,1⟩:S109),(⟨6,2,0,1,20⟩:S109),(⟨10,3,2,1,0⟩:S109),(⟨8,0,0,0,1⟩:S109)]:List (S109))) 0 x1000 bt284.2.1 bt284.2.2) else (if bt284.1=1 then (spec_l9DrawMem.l2 k x3 (([(⟨4,1,0,0,8⟩:S109),(⟨3,1,1,0,1⟩:S109),(⟨5,0,0,1,8⟩:S109),(⟨8,0,0,0,8⟩:S109)]:List (S109))) 0 x1000 bt284.2.1 bt284.2.2) else (some (x3,bt284.2.1,bt284.2.2)))))
def spec_l9DrawMem.l1:Nat→List Int→List (S109)→Int→List Int→Int→Int→Option (List Int×Int×Int)
 |0,_,_,_,_,_,_=>none
 |k+1,x3,x7,x8,x1000,x1001,x1002=>if x8<(x7.length:Int) then (if 0≤x8 then ((spec_Code.f ((rd_T109 x7 x8).f0) ((rd_T109 x7 x8).f1) ((rd_T109 x7 x8).f2) ((rd_T109 x7 x8).f3) ((rd_T109 x7 x8).f4)).bind fun bt291=>(if x8<(x3.length:Int) then (spec_l9DrawMem.l1 k (x3.set (x8:Int).toNat bt291.1) x7 (wrap64 (x8+1)) x1000 x1001 x1002) else (none))) else (none)) else (some (x3,x1001,x1002))
def spec_l9DrawMem.l2:Nat→List Int→List (S109)→Int→List Int→Int→Int→Option (List Int×Int×Int)
 |0,_,_,_,_,_,_=>none
 |k+1,x3,x9,x10,x1000,x1001,x1002=>if x10<(x9.length:Int) then (if 0≤x10 then ((spec_Code.f ((rd_T109 x9 x10).f0) ((rd_T109 x9 x10).f1) ((rd_T109 x9 x10).f2) ((rd_T109 x9 x10).f3) ((rd_T109 x9 x10).f4)).bind fun bt298=>(if x10<(x3.length:Int) then (spec_l9DrawMem.l2 k (x3.set (x10:Int).toNat bt298.1) x9 (wrap64 (x10+1)) x1000 x1001 x1002) else (none))) else (none)) else (some (x3,x1001,x1002))
end
def spec_l9DrawMem.f (k:Nat) (s0_0:List Int) (s0_1:Int) (s0_2:Int):Option (List Int×Int×Int):=spec_l9DrawMem.l0 k (([]:List Int)) 0 s0_0 s0_1 s0_2
theorem spec_l9DrawMem.mono_l: ∀k,(∀y0 y1 y2 y3 y4,LeO (spec_l9DrawMem.l0 k y0 y1 y2 y3 y4) (spec_l9DrawMem.l0 (k+1) y0 y1 y2 y3 y4))∧(∀y0 y1 y2 y3 y4 y5,LeO (spec_l9DrawMem.l1 k y0 y1 y2 y3 y4 y5) (spec_l9DrawMem.l1 (k+1) y0 y1 y2 y3 y4 y5))∧(∀y0 y1 y2 y3 y4 y5,LeO (spec_l9DrawMem.l2 k y0 y1 y2 y3 y4 y5) (spec_l9DrawMem.l2 (k+1) y0 y1 y2 y3 y4 y5))
 |0=>⟨fun _ _ _ _ _ r h=>by simp [spec_l9DrawMem.l0] at h,fun _ _ _ _ _ _ r h=>by simp [spec_l9DrawMem.l1] at h,fun _ _ _ _ _ _ r h=>by simp [spec_l9DrawMem.l2] at h⟩
 |k+1=>by
  obtain ⟨ih0,ih1,ih2⟩:=spec_l9DrawMem.mono_l k
  refine ⟨?_,?_,?_⟩
  ·intros
   unfold spec_l9DrawMem.l0
   have mo0:=@spec_l8DrawIns.mono
   exact zL
  ·intros
   unfold spec_l9DrawMem.l1
   have mo0:=@spec_l8DrawIns.mono
   exact zL
  ·intros
   unfold spec_l9DrawMem.l2
   have mo0:=@spec_l8DrawIns.mono
   exact zL
theorem spec_l9DrawMem.mono: ∀a0 a1 a2 k,LeO (spec_l9DrawMem.f k a0 a1 a2) (spec_l9DrawMem.f (k+1) a0 a1 a2):=by
 intro a0 a1 a2 k
 obtain ⟨ih0,ih1,ih2⟩:=spec_l9DrawMem.mono_l k
 unfold spec_l9DrawMem.f
 have mo0:=@spec_l8DrawIns.mono
 exact zL
theorem spec_l9DrawMem.calls (k:Nat) (g:Nat) (s0_0:List Int) (s0_1:Int) (s0_2:Int) (r1:List Int) (r2:Int) (r3:Int) (w0 w:World) (hI:IsS106 w0 w g s0_0 s0_1 s0_2) (hB:Below w0.heap.size w0 w) (h:spec_l9DrawMem.f k s0_0 s0_1 s0_2=some (r1,r2,r3)):
  Calls Try.prog 89 #[.pointer (some ⟨g,0,none⟩)] w fun e w'=>∃v0_:Value,e= .returned (v0_)∧Kd.R (Kd.int .i64) 3 w' w.heap.size (fun _=>True) v0_ r1∧IsS106 w0 w' g s0_0 r2 r3∧Below w0.heap.size w0 w'∧KeepBut w w' g none:=by
 have hu109:=Try.underlying109
 have HI0:=zM hI
 have HK:=zM (KeepBut.refl w g none)
 have HL:=zM hB.size
 clear hI
 have HW0:=zM hB.size
 have HB:=zM hB
 clear hB
 unfold spec_l9DrawMem.f at h
 have H:=h
 clear h
 generalize hy248:((([]:List Int)):List Int)=y248 at H
 have Ny248:=zM hy248.symm
 clear hy248
 have H':=zM H
 clear H
 go_enter Try.func89,Try.ntmps89
 go_wp2_with (first|((with_reducible refine gate_dst (N:=11) rfl ?_);refine Kd.R_lit (Kd.int .i64) _ 3 ?hg (N:=11) ?hd (xs:=([]:List Int)) (inner:=[]) (ok:=fun _=>True) (okp:=fun _=>True) ?hr ?hp (fun _ hk=>hk) trivial (Below.refl _ _) (Nat.le_refl _) (by simp) ?_;(case hd=>rfl);(case hg=>rfl);(case hr=>exact zHH);(case hp=>exact (Reps.none _ _));intro v249 w2 ho3 hb hg_ hnew_;clear hg_ hnew_;(first|rw [←Ny248.1] at ho3|(simp only [Int.reduceToNat] at ho3;rw [←Ny248.1] at ho3));have HO250:=zM (Kd.R_lower ho3 (keep_size (w:=w) (g:=g) (row:=none) zB8));replace HK:=zM (KeepBut.trans zB8 (KeepBut.of_below hb g none) (.inl rfl));replace HB:=zM (below_step zB7 hb);replace HI0:=zM (IsS106.below zB6 hb);clear hb ho3))
 go_loopg [3,4] k (fun kq v3 v4 w'=>∃(x3_1:List Int) (x4_1:Int) (x1001_1:Int) (x1002_1:Int),v4= .int .i64 x4_1∧Aside0 (spec_l9DrawMem.l0 kq x3_1 x4_1 s0_0 x1001_1 x1002_1=some (r1,r2,r3))∧Aside0 (kq≤k)∧Aside0 (Kd.R (Kd.int .i64) 3 w' w.heap.size (fun _=>True) v3 x3_1)∧Aside0 (IsS106 w0 w' g s0_0 x1001_1 x1002_1)∧Aside0 (KeepBut w w' g none)∧Aside0 (Below w0.heap.size w0 w'))
 case atStart=>exact ⟨(y248),(0),(s0_1),(s0_2),zJJ,H',⟨Nat.le_refl _⟩,⟨zR HO250.1⟩,⟨zB6⟩,⟨zB8⟩,⟨zB7⟩⟩
 case round=>
  clear H'
  obtain ⟨x3_1,x4_1,x1001_1,x1002_1,rfl,HA,HK1,HO_3,HI0,HK,HB⟩:=hrel
  cases gk with
  |zero=>exact absurd HA.1 (by simp [spec_l9DrawMem.l0])
  |succ k1=>
   have H:=HA.1
   clear HA
   simp only [spec_l9DrawMem.l0] at H
   by_cases c4:x4_1<24
   ·rw [if_pos c4] at H
    have c4b0:=decide_eq_true c4
    clear c4
    replace H:=zO H
    obtain ⟨⟨t251,t252,t253,t254,t255,t256,t257⟩,A5,H⟩:=H
    try dsimp only at H
    replace H:=zO H
    obtain ⟨⟨t258,t259⟩,A6,H⟩:=H
    try dsimp only at H
    by_cases c7:x4_1>15
    ·rw [if_pos c7] at H
     have c7b0:=decide_eq_true c7
     clear c7
     generalize hy260:((([0,1,5,65535]:List Int)):List Int)=y260 at H
     have Ny260:=zM hy260.symm
     clear hy260
     replace H:=zO H
     obtain ⟨⟨t263,t264,t265⟩,A8,H⟩:=H
     try dsimp only at H
     replace H:=zIn H
     obtain ⟨LMc9,H⟩:=H
     generalize hy266:((x3_1++[t263]):List Int)=y266 at H
     have Ny266:=zM hy266.symm
     clear hy266
     have H':=zM H
     clear H
     go_wp2_with (first|((with_reducible refine zG Try.func115 18 #[.pointer (some ⟨g,0,none⟩)] ?_);(with_reducible refine (spec_l8DrawIns.calls k1 g s0_0 x1001_1 x1002_1 t251 t252 t253 t254 t255 t256 t257 w0 _ ?side1 ?side2 A5.1).mono ?_);(case side1=>exact zB6);(case side2=>exact zB7);rintro e w10 ⟨rfl,hi,hb,hk⟩;refine ⟨_,rfl,?_⟩;replace HO_3:=zM (Kd.R_mono (Kd.R_keep (IsS106.apart (show IsS106 w0 _ g s0_0 x1001_1 x1002_1 from zB6) (zR HO_3.1) (by decide)) hk (fun _ h=>h.2)) (fun _ h=>h.1));replace HK:=zM (KeepBut.trans zB8 hk (.inl rfl));replace HB:=zM hb;replace HI0:=zM hi;clear hb hk hi)|((with_reducible refine zG Try.func114 19 #[.agg #[.int .i64 t251,.int .i64 t252,.int .i64 t253,.int .i64 t254,.int .i64 t255]] ?_);(with_reducible refine (spec_Code.calls t251 t252 t253 t254 t255 t258 t259 _ A6.1).mono ?_);rintro e w11 ⟨rfl,hb⟩;refine ⟨_,rfl,?_⟩;replace HO_3:=zM (Kd.R_below (zR HO_3.1) hb);replace HK:=zM (KeepBut.trans zB8 (KeepBut.of_below hb g none) (.inl rfl));replace HB:=zM (below_step zB7 hb);replace HI0:=zM (IsS106.below zB6 hb);clear hb)|((with_reducible refine gate_dst (N:=29) rfl ?_);refine Kd.R_lit (Kd.int .i64) _ 3 ?hg (N:=29) ?hd (xs:=([0,1,5,65535]:List Int)) (inner:=[.int .i64 0,.int .i64 1,.int .i64 5,.int .i64 65535]) (ok:=fun _=>True) (okp:=fun _=>True) ?hr ?hp (fun _ hk=>hk) trivial (Below.refl _ _) (Nat.le_refl _) (by simp) ?_;(case hd=>rfl);(case hg=>rfl);(case hr=>exact zHH);(case hp=>exact (Reps.one (show Kd.M (Kd.int .i64) _ _ _ 0 [.int .i64 0] from rfl) (Reps.one (show Kd.M (Kd.int .i64) _ _ _ 1 [.int .i64 1] from rfl) (Reps.one (show Kd.M (Kd.int .i64) _ _ _ 5 [.int .i64 5] from rfl) (Reps.one (show Kd.M (Kd.int .i64) _ _ _ 65535 [.int .i64 65535] from rfl) (Reps.none _ _))))));intro v261 w12 ho13 hb hg_ hnew_;clear hg_ hnew_;(first|rw [←Ny260.1] at ho13|(simp only [Int.reduceToNat] at ho13;rw [←Ny260.1] at ho13));have HO262:=zM (Kd.R_lower (Kd.R_new' ho13 (Kd.R_lt (zR HO_3.1))) (keep_size (w:=w) (g:=g) (row:=none) zB8));replace HO_3:=zM (Kd.R_elder' (zR HO_3.1) (Kd.R_base ho13) hb);replace HK:=zM (KeepBut.trans zB8 (KeepBut.of_below hb g none) (.inl rfl));replace HB:=zM (below_step zB7 hb);replace HI0:=zM (IsS106.below zB6 hb);clear hb ho13;obtain ⟨Ao14,co14,eo14⟩:=Kd.R_slice HO262.1;subst eo14)|((with_reducible refine zG Try.func91 30 #[.pointer (some ⟨g,0,none⟩),.slice Ao14 y260.length co14] ?_);(with_reducible refine (spec_l1PickInt.calls g s0_0 t256 t257 _ _ y260 t263 t264 t265 w0 _ ?side1 ?side2 ?side3 ?side4 ?side5 A8.1).mono ?_);(case side1=>exact zB6);(case side2=>exact zB7);(case side3=>exact zC (Kd.R_reads' HO262.1).2.2);(case side4=>exact (Kd.R_reads' HO262.1).2.1);(case side5=>exact far_slice (IsS106.own_ne HI0.1 HO262.1 (by decide)));rintro e w15 ⟨rfl,hi,hb,hk⟩;refine ⟨_,rfl,?_⟩;replace HO_3:=zM (Kd.R_mono (Kd.R_keep (IsS106.apart (show IsS106 w0 _ g s0_0 t256 t257 from zB6) (zR HO_3.1) (by decide)) hk (fun _ h=>h.2)) (fun _ h=>h.1));replace HO262:=zM (Kd.R_mono (Kd.R_keep (IsS106.apart (show IsS106 w0 _ g s0_0 t256 t257 from zB6) (zR HO262.1) (by decide)) hk (fun _ h=>h.2)) (fun _ h=>h.1));replace HK:=zM (KeepBut.trans zB8 hk (.inl rfl));replace HB:=zM hb;replace HI0:=zM hi;clear hb hk hi)|((with_reducible refine gate_builtin (b:= .append) (xs:=#[.tmp 31,.tmp 33]) rfl ?_);at_builtin;refine Kd.R_append (Kd.int .i64) w.heap.size rfl (.tmp 31) (.tmp 33) 24 3 (.int .i64 0) 8 rfl Try.underlying24 info3 rfl (by decide) (by omega) u3 x3_1 t263 [.int .i64 t263] (fun k_=>some k_≠(.slice Ao14 y260.length co14:Value).ownBlock) (fun _=>False) rfl rfl ?aP (fun _ hk=>hk.elim) ?aF ?aO (Below.refl _ _) ?aS ?aL ?_;(case aP=>exact rfl);(case aF=>exact (fun k_ hk=>Kd.fresh' (Kd.R_lt (zR HO262.1)) k_ hk));(case aO=>exact (by refine zrR ?_;exact Kd.R_mono HO_3.1 (fun _ hk=>hk.2)));(case aS=>exact (keep_size (w:=w) (g:=g) (row:=none) zB8));(case aL=>have:=LMc9.out;omega);intro v267 w16 ho hb hg hat;rw [←Ny266.1] at ho;replace HO262:=zM (Kd.R_after (ok:=(fun _=>True)) (zR HO262.1) hg hat);replace HB:=zM (below_weaken zB7 HL.1 hb);replace HI0:=zM (IsS106.grown (show IsS106 w0 _ g s0_0 t264 t265 from zB6) hg (IsS106.own_ne HI0.1 HO_3.1 (by decide)));replace HK:=zM (KeepBut.trans zB8 (KeepBut.of_grown hg g) (Kd.R_base2 HO_3.1));have HO268:=zM ho;clear HO_3;clear ho hb hg hat))
     go_roundg k1
     case measure=>have:=HK1.1;omega
     case rel=>exact ⟨(y266),(wrap64 (x4_1+1)),(t264),(t265),zJJ,H',⟨by have:=HK1.1;omega⟩,⟨by refine zrR ?_;exact Kd.R_mono HO268.1 (fun _ hk=>trivial)⟩,⟨zB6⟩,⟨zB8⟩,⟨zB7⟩⟩
    rw [if_neg c7] at H
    have c7b0:=decide_eq_false c7
    clear c7
    replace H:=zO H
    obtain ⟨⟨t269,t270,t271⟩,A17,H⟩:=H
    try dsimp only at H
    by_cases c18:t269=true
    rotate_left
    ·replace c18:=Bool.eq_false_iff.mpr c18
     subst c18
     rw [if_neg zF] at H
     replace H:=zIn H
     obtain ⟨LMc29,H⟩:=H
     generalize hy281:((x3_1++[t258]):List Int)=y281 at H
     have Ny281:=zM hy281.symm
     clear hy281
     have H':=zM H
     clear H
     go_wp2_with (first|((with_reducible refine zG Try.func115 18 #[.pointer (some ⟨g,0,none⟩)] ?_);(with_reducible refine (spec_l8DrawIns.calls k1 g s0_0 x1001_1 x1002_1 t251 t252 t253 t254 t255 t256 t257 w0 _ ?side1 ?side2 A5.1).mono ?_);(case side1=>exact zB6);(case side2=>exact zB7);rintro e w30 ⟨rfl,hi,hb,hk⟩;refine ⟨_,rfl,?_⟩;replace HO_3:=zM (Kd.R_mono (Kd.R_keep (IsS106.apart (show IsS106 w0 _ g s0_0 x1001_1 x1002_1 from zB6) (zR HO_3.1) (by decide)) hk (fun _ h=>h.2)) (fun _ h=>h.1));replace HK:=zM (KeepBut.trans zB8 hk (.inl rfl));replace HB:=zM hb;replace HI0:=zM hi;clear hb hk hi)|((with_reducible refine zG Try.func114 19 #[.agg #[.int .i64 t251,.int .i64 t252,.int .i64 t253,.int .i64 t254,.int .i64 t255]] ?_);(with_reducible refine (spec_Code.calls t251 t252 t253 t254 t255 t258 t259 _ A6.1).mono ?_);rintro e w31 ⟨rfl,hb⟩;refine ⟨_,rfl,?_⟩;replace HO_3:=zM (Kd.R_below (zR HO_3.1) hb);replace HK:=zM (KeepBut.trans zB8 (KeepBut.of_below hb g none) (.inl rfl));replace HB:=zM (below_step zB7 hb);replace HI0:=zM (IsS106.below zB6 hb);clear hb)|(go_at_call 56;(with_reducible refine (spec_l1Once.calls g s0_0 t256 t257 9 false t270 t271 w0 _ ?side1 ?side2 A17.1).mono ?_);(case side1=>exact zB6);(case side2=>exact zB7);rintro e w32 ⟨rfl,hi,hb,hk⟩;replace HO_3:=zM (Kd.R_mono (Kd.R_keep (IsS106.apart (show IsS106 w0 _ g s0_0 t256 t257 from zB6) (zR HO_3.1) (by decide)) hk (fun _ h=>h.2)) (fun _ h=>h.1));replace HK:=zM (KeepBut.trans zB8 hk (.inl rfl));replace HB:=zM hb;replace HI0:=zM hi;clear hb hk hi)|((with_reducible refine gate_builtin (b:= .append) (xs:=#[.tmp 31,.tmp 33]) rfl ?_);at_builtin;refine Kd.R_append (Kd.int .i64) w.heap.size rfl (.tmp 31) (.tmp 33) 24 3 (.int .i64 0) 8 rfl Try.underlying24 info3 rfl (by decide) (by omega) u3 x3_1 t258 [.int .i64 t258] (fun _=>True) (fun _=>False) rfl rfl ?aP (fun _ hk=>hk.elim) ?aF ?aO (Below.refl _ _) ?aS ?aL ?_;(case aP=>exact rfl);(case aF=>exact (fun _ _=>trivial));(case aO=>exact (zR HO_3.1));(case aS=>exact (keep_size (w:=w) (g:=g) (row:=none) zB8));(case aL=>have:=LMc29.out;omega);intro v282 w33 ho hb hg hat;rw [←Ny281.1] at ho;replace HB:=zM (below_weaken zB7 HL.1 hb);replace HI0:=zM (IsS106.grown (show IsS106 w0 _ g s0_0 t270 t271 from zB6) hg (IsS106.own_ne HI0.1 HO_3.1 (by decide)));replace HK:=zM (KeepBut.trans zB8 (KeepBut.of_grown hg g) (Kd.R_base2 HO_3.1));have HO283:=zM ho;clear HO_3;clear ho hb hg hat))
     go_roundg k1
     case measure=>have:=HK1.1;omega
     case rel=>exact ⟨(y281),(wrap64 (x4_1+1)),(t270),(t271),zJJ,H',⟨by have:=HK1.1;omega⟩,⟨zR HO283.1⟩,⟨zB6⟩,⟨zB8⟩,⟨zB7⟩⟩
    subst c18
    rw [if_pos rfl] at H
    generalize hy272:((([0,1,5,65535]:List Int)):List Int)=y272 at H
    have Ny272:=zM hy272.symm
    clear hy272
    replace H:=zO H
    obtain ⟨⟨t275,t276,t277⟩,A19,H⟩:=H
    try dsimp only at H
    replace H:=zIn H
    obtain ⟨LMc20,H⟩:=H
    generalize hy278:((x3_1++[t275]):List Int)=y278 at H
    have Ny278:=zM hy278.symm
    clear hy278
    have H':=zM H
    clear H
    go_wp2_with (first|((with_reducible refine zG Try.func115 18 #[.pointer (some ⟨g,0,none⟩)] ?_);(with_reducible refine (spec_l8DrawIns.calls k1 g s0_0 x1001_1 x1002_1 t251 t252 t253 t254 t255 t256 t257 w0 _ ?side1 ?side2 A5.1).mono ?_);(case side1=>exact zB6);(case side2=>exact zB7);rintro e w21 ⟨rfl,hi,hb,hk⟩;refine ⟨_,rfl,?_⟩;replace HO_3:=zM (Kd.R_mono (Kd.R_keep (IsS106.apart (show IsS106 w0 _ g s0_0 x1001_1 x1002_1 from zB6) (zR HO_3.1) (by decide)) hk (fun _ h=>h.2)) (fun _ h=>h.1));replace HK:=zM (KeepBut.trans zB8 hk (.inl rfl));replace HB:=zM hb;replace HI0:=zM hi;clear hb hk hi)|((with_reducible refine zG Try.func114 19 #[.agg #[.int .i64 t251,.int .i64 t252,.int .i64 t253,.int .i64 t254,.int .i64 t255]] ?_);(with_reducible refine (spec_Code.calls t251 t252 t253 t254 t255 t258 t259 _ A6.1).mono ?_);rintro e w22 ⟨rfl,hb⟩;refine ⟨_,rfl,?_⟩;replace HO_3:=zM (Kd.R_below (zR HO_3.1) hb);replace HK:=zM (KeepBut.trans zB8 (KeepBut.of_below hb g none) (.inl rfl));replace HB:=zM (below_step zB7 hb);replace HI0:=zM (IsS106.below zB6 hb);clear hb)|(go_at_call 56;(with_reducible refine (spec_l1Once.calls g s0_0 t256 t257 9 true t270 t271 w0 _ ?side1 ?side2 A17.1).mono ?_);(case side1=>exact zB6);(case side2=>exact zB7);rintro e w23 ⟨rfl,hi,hb,hk⟩;replace HO_3:=zM (Kd.R_mono (Kd.R_keep (IsS106.apart (show IsS106 w0 _ g s0_0 t256 t257 from zB6) (zR HO_3.1) (by decide)) hk (fun _ h=>h.2)) (fun _ h=>h.1));replace HK:=zM (KeepBut.trans zB8 hk (.inl rfl));replace HB:=zM hb;replace HI0:=zM hi;clear hb hk hi)|((with_reducible refine gate_dst (N:=29) rfl ?_);refine Kd.R_lit (Kd.int .i64) _ 3 ?hg (N:=29) ?hd (xs:=([0,1,5,65535]:List Int)) (inner:=[.int .i64 0,.int .i64 1,.int .i64 5,.int .i64 65535]) (ok:=fun _=>True) (okp:=fun _=>True) ?hr ?hp (fun _ hk=>hk) trivial (Below.refl _ _) (Nat.le_refl _) (by simp) ?_;(case hd=>rfl);(case hg=>rfl);(case hr=>exact zHH);(case hp=>exact (Reps.one (show Kd.M (Kd.int .i64) _ _ _ 0 [.int .i64 0] from rfl) (Reps.one (show Kd.M (Kd.int .i64) _ _ _ 1 [.int .i64 1] from rfl) (Reps.one (show Kd.M (Kd.int .i64) _ _ _ 5 [.int .i64 5] from rfl) (Reps.one (show Kd.M (Kd.int .i64) _ _ _ 65535 [.int .i64 65535] from rfl) (Reps.none _ _))))));intro v273 w24 ho25 hb hg_ hnew_;clear hg_ hnew_;(first|rw [←Ny272.1] at ho25|(simp only [Int.reduceToNat] at ho25;rw [←Ny272.1] at ho25));have HO274:=zM (Kd.R_lower (Kd.R_new' ho25 (Kd.R_lt (zR HO_3.1))) (keep_size (w:=w) (g:=g) (row:=none) zB8));replace HO_3:=zM (Kd.R_elder' (zR HO_3.1) (Kd.R_base ho25) hb);replace HK:=zM (KeepBut.trans zB8 (KeepBut.of_below hb g none) (.inl rfl));replace HB:=zM (below_step zB7 hb);replace HI0:=zM (IsS106.below zB6 hb);clear hb ho25;obtain ⟨Ao26,co26,eo26⟩:=Kd.R_slice HO274.1;subst eo26)|((with_reducible refine zG Try.func91 30 #[.pointer (some ⟨g,0,none⟩),.slice Ao26 y272.length co26] ?_);(with_reducible refine (spec_l1PickInt.calls g s0_0 t270 t271 _ _ y272 t275 t276 t277 w0 _ ?side1 ?side2 ?side3 ?side4 ?side5 A19.1).mono ?_);(case side1=>exact zB6);(case side2=>exact zB7);(case side3=>exact zC (Kd.R_reads' HO274.1).2.2);(case side4=>exact (Kd.R_reads' HO274.1).2.1);(case side5=>exact far_slice (IsS106.own_ne HI0.1 HO274.1 (by decide)));rintro e w27 ⟨rfl,hi,hb,hk⟩;refine ⟨_,rfl,?_⟩;replace HO_3:=zM (Kd.R_mono (Kd.R_keep (IsS106.apart (show IsS106 w0 _ g s0_0 t270 t271 from zB6) (zR HO_3.1) (by decide)) hk (fun _ h=>h.2)) (fun _ h=>h.1));replace HO274:=zM (Kd.R_mono (Kd.R_keep (IsS106.apart (show IsS106 w0 _ g s0_0 t270 t271 from zB6) (zR HO274.1) (by decide)) hk (fun _ h=>h.2)) (fun _ h=>h.1));replace HK:=zM (KeepBut.trans zB8 hk (.inl rfl));replace HB:=zM hb;replace HI0:=zM hi;clear hb hk hi)|((with_reducible refine gate_builtin (b:= .append) (xs:=#[.tmp 31,.tmp 33]) rfl ?_);at_builtin;refine Kd.R_append (Kd.int .i64) w.heap.size rfl (.tmp 31) (.tmp 33) 24 3 (.int .i64 0) 8 rfl Try.underlying24 info3 rfl (by decide) (by omega) u3 x3_1 t275 [.int .i64 t275] (fun k_=>some k_≠(.slice Ao26 y272.length co26:Value).ownBlock) (fun _=>False) rfl rfl ?aP (fun _ hk=>hk.elim) ?aF ?aO (Below.refl _ _) ?aS ?aL ?_;(case aP=>exact rfl);(case aF=>exact (fun k_ hk=>Kd.fresh' (Kd.R_lt (zR HO274.1)) k_ hk));(case aO=>exact (by refine zrR ?_;exact Kd.R_mono HO_3.1 (fun _ hk=>hk.2)));(case aS=>exact (keep_size (w:=w) (g:=g) (row:=none) zB8));(case aL=>have:=LMc20.out;omega);intro v279 w28 ho hb hg hat;rw [←Ny278.1] at ho;replace HO274:=zM (Kd.R_after (ok:=(fun _=>True)) (zR HO274.1) hg hat);replace HB:=zM (below_weaken zB7 HL.1 hb);replace HI0:=zM (IsS106.grown (show IsS106 w0 _ g s0_0 t276 t277 from zB6) hg (IsS106.own_ne HI0.1 HO_3.1 (by decide)));replace HK:=zM (KeepBut.trans zB8 (KeepBut.of_grown hg g) (Kd.R_base2 HO_3.1));have HO280:=zM ho;clear HO_3;clear ho hb hg hat))
    go_roundg k1
    case measure=>have:=HK1.1;omega
    case rel=>exact ⟨(y278),(wrap64 (x4_1+1)),(t276),(t277),zJJ,H',⟨by have:=HK1.1;omega⟩,⟨by refine zrR ?_;exact Kd.R_mono HO280.1 (fun _ hk=>trivial)⟩,⟨zB6⟩,⟨zB8⟩,⟨zB7⟩⟩
   rw [if_neg c4] at H
   have c4b0:=decide_eq_false c4
   clear c4
   replace H:=zO H
   obtain ⟨⟨t284,t285,t286⟩,A34,H⟩:=H
   try dsimp only at H
   by_cases c35:t284=0
   ·rw [if_pos c35] at H
    have c35b0:(t284 == 0)=true:=beq_iff_eq.mpr c35
    have c35b1:(t284 != 0)=false:=bne_eq_false_iff_eq.mpr c35
    clear c35
    generalize hy287:((([(⟨1,1,0,0,1⟩:S109),(⟨6,2,0,1,20⟩:S109),(⟨10,3,2,1,0⟩:S109),(⟨8,0,0,0,1⟩:S109)]:List (S109))):List (S109))=y287 at H
    have Ny287:=zM hy287.symm
    clear hy287
    have H':=zM H
    clear H
    go_wp2_with (first|((with_reducible refine zG Try.func90 36 #[.pointer (some ⟨g,0,none⟩),.int .i64 4] ?_);(with_reducible refine (spec_l1Below.calls g s0_0 x1001_1 x1002_1 4 t284 t285 t286 w0 _ ?side1 ?side2 A34.1).mono ?_);(case side1=>exact zB6);(case side2=>exact zB7);rintro e w36 ⟨rfl,hi,hb,hk⟩;refine ⟨_,rfl,?_⟩;replace HO_3:=zM (Kd.R_mono (Kd.R_keep (IsS106.apart (show IsS106 w0 _ g s0_0 x1001_1 x1002_1 from zB6) (zR HO_3.1) (by decide)) hk (fun _ h=>h.2)) (fun _ h=>h.1));replace HK:=zM (KeepBut.trans zB8 hk (.inl rfl));replace HB:=zM hb;replace HI0:=zM hi;clear hb hk hi)|((with_reducible refine gate_dst (N:=43) rfl ?_);refine Kd.R_lit k109 _ 109 ?hg (N:=43) ?hd (xs:=([(⟨1,1,0,0,1⟩:S109),(⟨6,2,0,1,20⟩:S109),(⟨10,3,2,1,0⟩:S109),(⟨8,0,0,0,1⟩:S109)]:List (S109))) (inner:=[.int .i64 1,.int .i64 1,.int .i64 0,.int .i64 0,.int .i64 1,.int .i64 6,.int .i64 2,.int .i64 0,.int .i64 1,.int .i64 20,.int .i64 10,.int .i64 3,.int .i64 2,.int .i64 1,.int .i64 0,.int .i64 8,.int .i64 0,.int .i64 0,.int .i64 0,.int .i64 1]) (ok:=fun _=>True) (okp:=fun _=>True) ?hr ?hp (fun _ hk=>hk) trivial (Below.refl _ _) (Nat.le_refl _) (by simp) ?_;(case hd=>rfl);(case hg=>rfl);(case hr=>exact zHH);(case hp=>exact (Reps.c5 (show Kd.M k109 _ _ _ (⟨1,1,0,0,1⟩:S109) [.int .i64 1,.int .i64 1,.int .i64 0,.int .i64 0,.int .i64 1] from (k109_mkM _ _ _ (⟨1,1,0,0,1⟩:S109))) (Reps.c5 (show Kd.M k109 _ _ _ (⟨6,2,0,1,20⟩:S109) [.int .i64 6,.int .i64 2,.int .i64 0,.int .i64 1,.int .i64 20] from (k109_mkM _ _ _ (⟨6,2,0,1,20⟩:S109))) (Reps.c5 (show Kd.M k109 _ _ _ (⟨10,3,2,1,0⟩:S109) [.int .i64 10,.int .i64 3,.int .i64 2,.int .i64 1,.int .i64 0] from (k109_mkM _ _ _ (⟨10,3,2,1,0⟩:S109))) (Reps.c5 (show Kd.M k109 _ _ _ (⟨8,0,0,0,1⟩:S109) [.int .i64 8,.int .i64 0,.int .i64 0,.int .i64 0,.int .i64 1] from (k109_mkM _ _ _ (⟨8,0,0,0,1⟩:S109))) (Reps.none _ _))))));intro v288 w37 ho38 hb hg_ hnew_;clear hg_ hnew_;(first|rw [←Ny287.1] at ho38|(simp only [Int.reduceToNat] at ho38;rw [←Ny287.1] at ho38));replace HO_3:=zM (Kd.R_below (zR HO_3.1) hb);have HO289:=zM (Kd.R_lower ho38 (keep_size (w:=w) (g:=g) (row:=none) zB8));replace HK:=zM (KeepBut.trans zB8 (KeepBut.of_below hb g none) (.inl rfl));replace HB:=zM (below_step zB7 hb);replace HI0:=zM (IsS106.below zB6 hb);clear hb ho38))
    go_loopg [8] k1 (fun kq v8 w'=>∃(x3_2:List Int) (x8_2:Int),v8= .int .i64 x8_2∧Aside0 (spec_l9DrawMem.l1 kq x3_2 y287 x8_2 s0_0 t285 t286=some (r1,r2,r3))∧Aside0 (kq≤k1)∧Aside0 (Kd.R (Kd.int .i64) 3 w' w.heap.size (fun _=>True) u3 x3_2)∧Aside0 (Kd.R k109 109 w' w.heap.size (fun _=>True) v288 y287)∧Aside0 (IsS106 w0 w' g s0_0 t285 t286)∧Aside0 (KeepBut w w' g none)∧Aside0 (Below w0.heap.size w0 w'))
    case atStart=>exact ⟨(x3_1),(0),zJJ,H',⟨Nat.le_refl _⟩,⟨zR HO_3.1⟩,⟨zR HO289.1⟩,⟨zB6⟩,⟨zB8⟩,⟨zB7⟩⟩
    case round=>
     clear H'
     obtain ⟨x3_2,x8_2,rfl,HA,HK2,HO_3,HO_7,HI0,HK,HB⟩:=hrel
     cases gk with
     |zero=>exact absurd HA.1 (by simp [spec_l9DrawMem.l1])
     |succ k2=>
      have H:=HA.1
      clear HA
      simp only [spec_l9DrawMem.l1] at H
      by_cases c39:x8_2<(y287.length:Int)
      rotate_left
      ·rw [if_neg c39] at H
       have c39b0:=decide_eq_false c39
       clear c39
       simp only [Option.some.injEq,Prod.mk.injEq] at H
       obtain ⟨rfl,rfl,rfl⟩:=H
       obtain ⟨Ao48,co48,eo48⟩:=Kd.R_slice HO_7.1
       subst eo48
       go_wp2
       go_ret
       exact ⟨_,zE,zR HO_3.1,zB6,zB7,zB8⟩
      rw [if_pos c39] at H
      have c39b0:=decide_eq_true c39
      clear c39
      replace H:=zIt H
      obtain ⟨c40b0,H⟩:=H
      replace H:=zO H
      obtain ⟨⟨t291,t292⟩,A41,H⟩:=H
      try dsimp only at H
      replace H:=zIt H
      obtain ⟨c42b0,H⟩:=H
      generalize hy293:((x3_2.set (x8_2:Int).toNat t291):List Int)=y293 at H
      have Ny293:=zM hy293.symm
      clear hy293
      have H':=zM H
      clear H
      obtain ⟨Ao44,co44,eo44⟩:=Kd.R_slice HO_7.1
      subst eo44
      obtain ⟨p290,q290,ad290,e290,hx290_0,hx290_1,hx290_2,hx290_3,hx290_4⟩:=zRd (at_T109 (Kd.R_reads' HO_7.1).2.2 x8_2)
      cases e290
      go_wp2_with (first|((with_reducible refine zG Try.func114 57 #[.agg #[.int .i64 ((rd_T109 y287 x8_2).f0),.int .i64 ((rd_T109 y287 x8_2).f1),.int .i64 ((rd_T109 y287 x8_2).f2),.int .i64 ((rd_T109 y287 x8_2).f3),.int .i64 ((rd_T109 y287 x8_2).f4)]] ?_);(with_reducible refine (spec_Code.calls ((rd_T109 y287 x8_2).f0) ((rd_T109 y287 x8_2).f1) ((rd_T109 y287 x8_2).f2) ((rd_T109 y287 x8_2).f3) ((rd_T109 y287 x8_2).f4) t291 t292 _ A41.1).mono ?_);rintro e w45 ⟨rfl,hb⟩;refine ⟨_,rfl,?_⟩;replace HO_3:=zM (Kd.R_below (zR HO_3.1) hb);replace HO_7:=zM (Kd.R_below (zR HO_7.1) hb);replace HK:=zM (KeepBut.trans zB8 (KeepBut.of_below hb g none) (.inl rfl));replace HB:=zM (below_step zB7 hb);replace HI0:=zM (IsS106.below zB6 hb);clear hb;have p43:0≤(x8_2:Int):=zA;have q43:(x8_2:Int)<((x3_2.length:Int):Int):=zA;obtain ⟨go43,co43,eo43,gb43,gl43,cl43,HG43⟩:=Kd.R_form HO_3.1 (by omega);(first|cases eo43|(injection eo43 with ea_ en_ ec_;(first|subst ea_|(injection ea_ with ea_;subst ea_));subst ec_;clear en_));have GB43:=zM gb43;have GG43:=zM HG43;clear gb43 gl43 HG43;obtain ⟨hx43_0,hf43_0⟩:=Kd.R_celln 0 HO_3.1 (x8_2:Int) p43 q43;replace p43:=eq_true p43;replace q43:=eq_true q43;obtain ⟨hy46_,hz46_⟩:=Kd.R_celln 0 HO_3.1 (x8_2:Int) zA zA;have HP46:=Kd.R_putg HO_3.1 (x8_2:Int) t291)|((with_reducible refine gate_store (t:=3) (p:=60) rfl ?_);refine store_event (t:=3) (p:=60) (v:=?vo_w47) (w1:=(w45.setCell ⟨go43,(x8_2:Int).toNat,none⟩ (.int .i64 t291))) ?hg ?ho ?hn ?hr ?_;(case ho=>rfl);(case hg=>rfl);(case hn=>rfl);(case hr=>exact zHH);intro w47 hw;have hg:w45.grownBy w47 (some go43):=(by rw [hw];exact HP46.2);have hp_:Kd.R (Kd.int .i64) 3 w47 w.heap.size (fun _=>True) (.slice (some ⟨go43,0,none⟩) x3_2.length co43) y293:=(by rw [hw,Ny293.1];exact HP46.1);clear HP46;replace HO_7:=zM (Kd.R_over' (v:=(.slice (some ⟨go43,0,none⟩) x3_2.length co43)) (zR HO_7.1) (Kd.R_typed HO_3.1) (by decide) hg);replace HI0:=zM (IsS106.grown zB6 hg (IsS106.own_ne HI0.1 HO_3.1 (by decide)));replace HB:=zM ((by rw [hw];exact below_set (HB.1) (Nat.le_trans HL.1 GB43.1):Below w0.heap.size w0 w47));replace HK:=zM (KeepBut.trans zB8 (KeepBut.of_grown hg g) (Kd.R_base2 HO_3.1));replace HO_3:=zM hp_;clear hg hw hp_))
      go_roundg k2
      case measure=>have:=HK1.1;have:=HK2.1;omega
      case rel=>exact ⟨(y293),(wrap64 (x8_2+1)),zJJ,H',⟨by have:=HK1.1;have:=HK2.1;omega⟩,⟨zR HO_3.1⟩,⟨zR HO_7.1⟩,⟨zB6⟩,⟨zB8⟩,⟨zB7⟩⟩
   rw [if_neg c35] at H
   have c35b0:(t284 == 0)=false:=beq_eq_false_iff_ne.mpr c35
   have c35b1:(t284 != 0)=true:=bne_iff_ne.mpr c35
   by_cases c49:t284=1
   rotate_left
   ·rw [if_neg c49] at H
    have c49b0:(t284 == 1)=false:=beq_eq_false_iff_ne.mpr c49
    have c49b1:(t284 != 1)=true:=bne_iff_ne.mpr c49
    simp only [Option.some.injEq,Prod.mk.injEq] at H
    obtain ⟨rfl,rfl,rfl⟩:=H
    go_wp2_with (first|((with_reducible refine zG Try.func90 36 #[.pointer (some ⟨g,0,none⟩),.int .i64 4] ?_);(with_reducible refine (spec_l1Below.calls g s0_0 x1001_1 x1002_1 4 t284 t285 t286 w0 _ ?side1 ?side2 A34.1).mono ?_);(case side1=>exact zB6);(case side2=>exact zB7);rintro e w63 ⟨rfl,hi,hb,hk⟩;refine ⟨_,rfl,?_⟩;replace HO_3:=zM (Kd.R_mono (Kd.R_keep (IsS106.apart (show IsS106 w0 _ g s0_0 x1001_1 x1002_1 from zB6) (zR HO_3.1) (by decide)) hk (fun _ h=>h.2)) (fun _ h=>h.1));replace HK:=zM (KeepBut.trans zB8 hk (.inl rfl));replace HB:=zM hb;replace HI0:=zM hi;clear hb hk hi))
    go_ret
    exact ⟨_,zE,zR HO_3.1,zB6,zB7,zB8⟩
   rw [if_pos c49] at H
   have c49b0:(t284 == 1)=true:=beq_iff_eq.mpr c49
   have c49b1:(t284 != 1)=false:=bne_eq_false_iff_eq.mpr c49
   clear c49
   generalize hy294:((([(⟨4,1,0,0,8⟩:S109),(⟨3,1,1,0,1⟩:S109),(⟨5,0,0,1,8⟩:S109),(⟨8,0,0,0,8⟩:S109)]:List (S109))):List (S109))=y294 at H
   have Ny294:=zM hy294.symm
   clear hy294
   have H':=zM H
   clear H
   go_wp2_with (first|((with_reducible refine zG Try.func90 36 #[.pointer (some ⟨g,0,none⟩),.int .i64 4] ?_);(with_reducible refine (spec_l1Below.calls g s0_0 x1001_1 x1002_1 4 t284 t285 t286 w0 _ ?side1 ?side2 A34.1).mono ?_);(case side1=>exact zB6);(case side2=>exact zB7);rintro e w50 ⟨rfl,hi,hb,hk⟩;refine ⟨_,rfl,?_⟩;replace HO_3:=zM (Kd.R_mono (Kd.R_keep (IsS106.apart (show IsS106 w0 _ g s0_0 x1001_1 x1002_1 from zB6) (zR HO_3.1) (by decide)) hk (fun _ h=>h.2)) (fun _ h=>h.1));replace HK:=zM (KeepBut.trans zB8 hk (.inl rfl));replace HB:=zM hb;replace HI0:=zM hi;clear hb hk hi)|((with_reducible refine gate_dst (N:=67) rfl ?_);refine Kd.R_lit k109 _ 109 ?hg (N:=67) ?hd (xs:=([(⟨4,1,0,0,8⟩:S109),(⟨3,1,1,0,1⟩:S109),(⟨5,0,0,1,8⟩:S109),(⟨8,0,0,0,8⟩:S109)]:List (S109))) (inner:=[.int .i64 4,.int .i64 1,.int .i64 0,.int .i64 0,.int .i64 8,.int .i64 3,.int .i64 1,.int .i64 1,.int .i64 0,.int .i64 1,.int .i64 5,.int .i64 0,.int .i64 0,.int .i64 1,.int .i64 8,.int .i64 8,.int .i64 0,.int .i64 0,.int .i64 0,.int .i64 8]) (ok:=fun _=>True) (okp:=fun _=>True) ?hr ?hp (fun _ hk=>hk) trivial (Below.refl _ _) (Nat.le_refl _) (by simp) ?_;(case hd=>rfl);(case hg=>rfl);(case hr=>exact zHH);(case hp=>exact (Reps.c5 (show Kd.M k109 _ _ _ (⟨4,1,0,0,8⟩:S109) [.int .i64 4,.int .i64 1,.int .i64 0,.int .i64 0,.int .i64 8] from (k109_mkM _ _ _ (⟨4,1,0,0,8⟩:S109))) (Reps.c5 (show Kd.M k109 _ _ _ (⟨3,1,1,0,1⟩:S109) [.int .i64 3,.int .i64 1,.int .i64 1,.int .i64 0,.int .i64 1] from (k109_mkM _ _ _ (⟨3,1,1,0,1⟩:S109))) (Reps.c5 (show Kd.M k109 _ _ _ (⟨5,0,0,1,8⟩:S109) [.int .i64 5,.int .i64 0,.int .i64 0,.int .i64 1,.int .i64 8] from (k109_mkM _ _ _ (⟨5,0,0,1,8⟩:S109))) (Reps.c5 (show Kd.M k109 _ _ _ (⟨8,0,0,0,8⟩:S109) [.int .i64 8,.int .i64 0,.int .i64 0,.int .i64 0,.int .i64 8] from (k109_mkM _ _ _ (⟨8,0,0,0,8⟩:S109))) (Reps.none _ _))))));intro v295 w51 ho52 hb hg_ hnew_;clear hg_ hnew_;(first|rw [←Ny294.1] at ho52|(simp only [Int.reduceToNat] at ho52;rw [←Ny294.1] at ho52));replace HO_3:=zM (Kd.R_below (zR HO_3.1) hb);have HO296:=zM (Kd.R_lower ho52 (keep_size (w:=w) (g:=g) (row:=none) zB8));replace HK:=zM (KeepBut.trans zB8 (KeepBut.of_below hb g none) (.inl rfl));replace HB:=zM (below_step zB7 hb);replace HI0:=zM (IsS106.below zB6 hb);clear hb ho52))
   go_loopg [10] k1 (fun kq v10 w'=>∃(x3_2:List Int) (x10_2:Int),v10= .int .i64 x10_2∧Aside0 (spec_l9DrawMem.l2 kq x3_2 y294 x10_2 s0_0 t285 t286=some (r1,r2,r3))∧Aside0 (kq≤k1)∧Aside0 (Kd.R (Kd.int .i64) 3 w' w.heap.size (fun _=>True) u3 x3_2)∧Aside0 (Kd.R k109 109 w' w.heap.size (fun _=>True) v295 y294)∧Aside0 (IsS106 w0 w' g s0_0 t285 t286)∧Aside0 (KeepBut w w' g none)∧Aside0 (Below w0.heap.size w0 w'))
   case atStart=>exact ⟨(x3_1),(0),zJJ,H',⟨Nat.le_refl _⟩,⟨zR HO_3.1⟩,⟨zR HO296.1⟩,⟨zB6⟩,⟨zB8⟩,⟨zB7⟩⟩
   case round=>
    clear H'
    try clear hf4
    try clear hf43
    obtain ⟨x3_2,x10_2,rfl,HA,HK2,HO_3,HO_9,HI0,HK,HB⟩:=hrel
    cases gk with
    |zero=>exact absurd HA.1 (by simp [spec_l9DrawMem.l2])
    |succ k2=>
     have H:=HA.1
     clear HA
     simp only [spec_l9DrawMem.l2] at H
     by_cases c53:x10_2<(y294.length:Int)
     rotate_left
     ·rw [if_neg c53] at H
      have c53b0:=decide_eq_false c53
      clear c53
      simp only [Option.some.injEq,Prod.mk.injEq] at H
      obtain ⟨rfl,rfl,rfl⟩:=H
      obtain ⟨Ao62,co62,eo62⟩:=Kd.R_slice HO_9.1
      subst eo62
      go_wp2
      go_ret
      exact ⟨_,zE,zR HO_3.1,zB6,zB7,zB8⟩
     rw [if_pos c53] at H
     have c53b0:=decide_eq_true c53
     clear c53
     replace H:=zIt H
     obtain ⟨c54b0,H⟩:=H
     replace H:=zO H
     obtain ⟨⟨t298,t299⟩,A55,H⟩:=H
     try dsimp only at H
     replace H:=zIt H
     obtain ⟨c56b0,H⟩:=H
     generalize hy300:((x3_2.set (x10_2:Int).toNat t298):List Int)=y300 at H
     have Ny300:=zM hy300.symm
     clear hy300
     have H':=zM H
     clear H
     obtain ⟨Ao58,co58,eo58⟩:=Kd.R_slice HO_9.1
     subst eo58
     obtain ⟨p297,q297,ad297,e297,hx297_0,hx297_1,hx297_2,hx297_3,hx297_4⟩:=zRd (at_T109 (Kd.R_reads' HO_9.1).2.2 x10_2)
     cases e297
     go_wp2_with (first|((with_reducible refine zG Try.func114 81 #[.agg #[.int .i64 ((rd_T109 y294 x10_2).f0),.int .i64 ((rd_T109 y294 x10_2).f1),.int .i64 ((rd_T109 y294 x10_2).f2),.int .i64 ((rd_T109 y294 x10_2).f3),.int .i64 ((rd_T109 y294 x10_2).f4)]] ?_);(with_reducible refine (spec_Code.calls ((rd_T109 y294 x10_2).f0) ((rd_T109 y294 x10_2).f1) ((rd_T109 y294 x10_2).f2) ((rd_T109 y294 x10_2).f3) ((rd_T109 y294 x10_2).f4) t298 t299 _ A55.1).mono ?_);rintro e w59 ⟨rfl,hb⟩;refine ⟨_,rfl,?_⟩;replace HO_3:=zM (Kd.R_below (zR HO_3.1) hb);replace HO_9:=zM (Kd.R_below (zR HO_9.1) hb);replace HK:=zM (KeepBut.trans zB8 (KeepBut.of_below hb g none) (.inl rfl));replace HB:=zM (below_step zB7 hb);replace HI0:=zM (IsS106.below zB6 hb);clear hb;have p57:0≤(x10_2:Int):=zA;have q57:(x10_2:Int)<((x3_2.length:Int):Int):=zA;obtain ⟨go57,co57,eo57,gb57,gl57,cl57,HG57⟩:=Kd.R_form HO_3.1 (by omega);(first|cases eo57|(injection eo57 with ea_ en_ ec_;(first|subst ea_|(injection ea_ with ea_;subst ea_));subst ec_;clear en_));have GB57:=zM gb57;have GG57:=zM HG57;clear gb57 gl57 HG57;obtain ⟨hx57_0,hf57_0⟩:=Kd.R_celln 0 HO_3.1 (x10_2:Int) p57 q57;replace p57:=eq_true p57;replace q57:=eq_true q57;obtain ⟨hy60_,hz60_⟩:=Kd.R_celln 0 HO_3.1 (x10_2:Int) zA zA;have HP60:=Kd.R_putg HO_3.1 (x10_2:Int) t298)|((with_reducible refine gate_store (t:=3) (p:=84) rfl ?_);refine store_event (t:=3) (p:=84) (v:=?vo_w61) (w1:=(w59.setCell ⟨go57,(x10_2:Int).toNat,none⟩ (.int .i64 t298))) ?hg ?ho ?hn ?hr ?_;(case ho=>rfl);(case hg=>rfl);(case hn=>rfl);(case hr=>exact zHH);intro w61 hw;have hg:w59.grownBy w61 (some go57):=(by rw [hw];exact HP60.2);have hp_:Kd.R (Kd.int .i64) 3 w61 w.heap.size (fun _=>True) (.slice (some ⟨go57,0,none⟩) x3_2.length co57) y300:=(by rw [hw,Ny300.1];exact HP60.1);clear HP60;replace HO_9:=zM (Kd.R_over' (v:=(.slice (some ⟨go57,0,none⟩) x3_2.length co57)) (zR HO_9.1) (Kd.R_typed HO_3.1) (by decide) hg);replace HI0:=zM (IsS106.grown zB6 hg (IsS106.own_ne HI0.1 HO_3.1 (by decide)));replace HB:=zM ((by rw [hw];exact below_set (HB.1) (Nat.le_trans HL.1 GB57.1):Below w0.heap.size w0 w61));replace HK:=zM (KeepBut.trans zB8 (KeepBut.of_grown hg g) (Kd.R_base2 HO_3.1));replace HO_3:=zM hp_;clear hg hw hp_))
     go_roundg k2
     case measure=>have:=HK1.1;have:=HK2.1;omega
     case rel=>exact ⟨(y300),(wrap64 (x10_2+1)),zJJ,H',⟨by have:=HK1.1;have:=HK2.1;omega⟩,⟨zR HO_3.1⟩,⟨zR HO_9.1⟩,⟨zB6⟩,⟨zB8⟩,⟨zB7⟩⟩

/-! ### spec_DrawFlatRun: function 57 -/
mutual
def spec_DrawFlatRun.l0:Nat→List Int→List (S53)→Int→List Int→Int→Int→Option (List Int×(List (S53))×List Int)
 |0,_,_,_,_,_,_=>none
 |k+1,x6,x7,x8,x305000,x305001,x305002=>(spec_l1Below.f x305000 x305001 x305002 3).bind fun bt313=>(if x8<(wrap64 (1+bt313.1)) then ((spec_l9DrawHart.f k x305000 bt313.2.1 bt313.2.2).bind fun bt316=>(if x7.length<3518437208883 then (spec_DrawFlatRun.l0 k x6 (x7++[(⟨bt316.1,bt316.2.1,bt316.2.2.1⟩:S53)]) (wrap64 (x8+1)) x305000 bt316.2.2.2.1 bt316.2.2.2.2) else (none))) else (spec_DrawFlatRun.l1 k x6 x7 (([]:List Int)) 0 x305000 bt313.2.1 bt313.2.2))
def spec_DrawFlatRun.l1:Nat→List Int→List (S53)→List Int→Int→List Int→Int→Int→Option (List Int×(List (S53))×List Int)
 |0,_,_,_,_,_,_,_=>none
 |k+1,x6,x7,x9,x10,x305000,x305001,x305002=>(spec_l1Below.f x305000 x305001 x305002 40).bind fun bt329=>(if x10<bt329.1 then ((spec_l1Below.f x305000 bt329.2.1 bt329.2.2 4).bind fun bt332=>(if x9.length<17592186044416 then (spec_DrawFlatRun.l1 k x6 x7 (x9++[bt332.1]) (wrap64 (x10+1)) x305000 bt332.2.1 bt332.2.2) else (none))) else ((spec_l1Once.f x305000 bt329.2.1 bt329.2.2 60).bind fun bt338=>(if bt338.1=true then ((spec_l1Below.f x305000 bt338.2.1 bt338.2.2 2).bind fun bt341=>(if 0≤(wrap64 (2000+bt341.1)) then (if (wrap64 (2000+bt341.1):Int).toNat≤35184372088832 then (some (x6,x7,(List.replicate (wrap64 (2000+bt341.1):Int).toNat 0))) else (none)) else (none))) else (some (x6,x7,x9)))))
end
def spec_DrawFlatRun.f (k:Nat) (l0:List Int):Option (List Int×(List (S53))×List Int):=(spec_l1New.f k l0).bind fun bt301=>((spec_l9DrawMem.f k bt301.1 bt301.2.1 bt301.2.2).bind fun bt305=>(spec_DrawFlatRun.l0 k bt305.1 (([]:List (S53))) 0 bt301.1 bt305.2.1 bt305.2.2))
theorem spec_DrawFlatRun.mono_l: ∀k,(∀y0 y1 y2 y3 y4 y5,LeO (spec_DrawFlatRun.l0 k y0 y1 y2 y3 y4 y5) (spec_DrawFlatRun.l0 (k+1) y0 y1 y2 y3 y4 y5))∧(∀y0 y1 y2 y3 y4 y5 y6,LeO (spec_DrawFlatRun.l1 k y0 y1 y2 y3 y4 y5 y6) (spec_DrawFlatRun.l1 (k+1) y0 y1 y2 y3 y4 y5 y6))
 |0=>⟨fun _ _ _ _ _ _ r h=>by simp [spec_DrawFlatRun.l0] at h,fun _ _ _ _ _ _ _ r h=>by simp [spec_DrawFlatRun.l1] at h⟩
 |k+1=>by
  obtain ⟨ih0,ih1⟩:=spec_DrawFlatRun.mono_l k
  refine ⟨?_,?_⟩
  ·intros
   unfold spec_DrawFlatRun.l0
   have mo0:=@spec_l1New.mono
   have mo1:=@spec_l9DrawHart.mono
   have mo2:=@spec_l9DrawMem.mono
   exact zL
  ·intros
   unfold spec_DrawFlatRun.l1
   have mo0:=@spec_l1New.mono
   have mo1:=@spec_l9DrawHart.mono
   have mo2:=@spec_l9DrawMem.mono
   exact zL
theorem spec_DrawFlatRun.mono: ∀a0 k,LeO (spec_DrawFlatRun.f k a0) (spec_DrawFlatRun.f (k+1) a0):=by
 intro a0 k
 obtain ⟨ih0,ih1⟩:=spec_DrawFlatRun.mono_l k
 unfold spec_DrawFlatRun.f
 have mo0:=@spec_l1New.mono
 have mo1:=@spec_l9DrawHart.mono
 have mo2:=@spec_l9DrawMem.mono
 exact zL
theorem spec_DrawFlatRun.calls (k:Nat) (A0:Option Addr) (c0:Nat) (l0:List Int) (r1:List Int) (r2:List (S53)) (r3:List Int) (w:World) (hr0:Kd.C (Kd.int .u8) w A0 l0.length l0) (hc0:l0.length≤c0) (h:spec_DrawFlatRun.f k l0=some (r1,r2,r3)):
  Calls Try.prog 57 #[.slice A0 l0.length c0] w fun e w'=>∃v0_ v1_ v2_:Value,e= .returned (.tuple #[v0_,v1_,v2_])∧Kd.R (Kd.int .i64) 3 w' w.heap.size (fun k_=>(w.heap.size≤k_)∧some k_≠(v2_:Value).ownBlock) v0_ r1∧Kd.N k53 53 w' w.heap.size (fun k_=>(w.heap.size≤k_)∧some k_≠(v0_:Value).ownBlock∧some k_≠(v2_:Value).ownBlock) v1_ r2∧Kd.R (Kd.int .i64) 3 w' w.heap.size (fun k_=>(w.heap.size≤k_)∧some k_≠(v0_:Value).ownBlock) v2_ r3∧Below w.heap.size w w':=by
 have HR0:=zM hr0
 have HC0:=zM hc0
 clear hr0 hc0
 have HB:=zM (Below.refl w.heap.size w)
 unfold spec_DrawFlatRun.f at h
 have H:=h
 clear h
 replace H:=zO H
 obtain ⟨⟨t301,t302,t303⟩,A2,H⟩:=H
 try dsimp only at H
 replace H:=zO H
 obtain ⟨⟨t305,t308,t309⟩,A3,H⟩:=H
 try dsimp only at H
 generalize hy310:((([]:List (S53))):List (S53))=y310 at H
 have Ny310:=zM hy310.symm
 clear hy310
 have H':=zM H
 clear H
 go_enter Try.func57,Try.ntmps57
 go_wp2_with (first|((with_reducible refine zG Try.func54 12 #[.slice A0 l0.length c0] ?_);(with_reducible refine (spec_l1New.calls k _ _ l0 t301 t302 t303 w _ ?side1 ?side2 ?side3 A2.1).mono ?_);(case side1=>exact zB0);(case side2=>exact HR0.1);(case side3=>exact HC0.1);rintro e w4 ⟨g304,rfl,hi,hb,hb2⟩;refine ⟨_,rfl,?_⟩;replace HB:=zM hb;have HI304:=zM hi;clear hb hb2 hi)|((with_reducible refine zG Try.func89 14 #[.pointer (some ⟨g304,0,none⟩)] ?_);(with_reducible refine (spec_l9DrawMem.calls k g304 t301 t302 t303 t305 t308 t309 w _ ?side1 ?side2 A3.1).mono ?_);(case side1=>exact zB36);(case side2=>exact zB37);rintro e w5 ⟨v306,rfl,ho0,hi,hb,hk⟩;refine ⟨_,rfl,?_⟩;have HO307:=zM (Kd.R_lower (Kd.R_newM (M:=fun k_=>(w.heap.size≤k_)) ho0 (below_size zB37) (fun k_ h_=>h_)) (below_size zB37));replace HB:=zM hb;replace HI304:=zM hi;clear hb hk hi ho0)|((with_reducible refine gate_dst (N:=15) rfl ?_);refine Kd.N_lit k53 _ 53 ?hg (N':=15) ?hd (xs:=([]:List (S53))) (inner:=[]) (ok:=(fun k_=>(w.heap.size≤k_)∧some k_≠(v306:Value).ownBlock∧k_≠g304)) (okp:=(fun k_=>(w.heap.size≤k_)∧some k_≠(v306:Value).ownBlock∧k_≠g304)) ?hr ?hp (fun _ hk=>hk) ((show ∀k_,w5.heap.size≤k_→(fun k_=>(w.heap.size≤k_)∧some k_≠(v306:Value).ownBlock∧k_≠g304) k_ from fun k_ hk=>⟨(Nat.le_trans (below_size zB37) hk),Kd.fresh' (Kd.R_lt (zR HO307.1)) k_ hk,IsS106.fresh zB36 k_ hk⟩) _ (Nat.le_refl _)) (Below.refl _ _) (Nat.le_refl _) (by simp) ?_;(case hd=>rfl);(case hg=>rfl);(case hr=>exact zHH);(case hp=>exact (Reps.none _ _));intro v311 w6 ho7 hb hg_ hnew_;clear hg_ hnew_;(first|rw [←Ny310.1] at ho7|(simp only [Int.reduceToNat] at ho7;rw [←Ny310.1] at ho7));replace HO307:=zM (Kd.R_below (zR HO307.1) hb);have HO312:=zM (Kd.N_lower ho7 (below_size zB37));replace HB:=zM (below_step zB37 hb);replace HI304:=zM (IsS106.below zB36 hb);clear hb ho7))
 go_loopg [7,8] k (fun kq v7 v8 w'=>∃(x7_1:List (S53)) (x8_1:Int) (x305001_1:Int) (x305002_1:Int),v8= .int .i64 x8_1∧Aside0 (spec_DrawFlatRun.l0 kq t305 x7_1 x8_1 t301 x305001_1 x305002_1=some (r1,r2,r3))∧Aside0 (kq≤k)∧Aside0 (Kd.R (Kd.int .i64) 3 w' w.heap.size (fun k_=>(w.heap.size≤k_)) v306 t305)∧Aside0 (Kd.N k53 53 w' w.heap.size (fun k_=>(w.heap.size≤k_)∧some k_≠(v306:Value).ownBlock∧k_≠g304) v7 x7_1)∧Aside0 (IsS106 w w' g304 t301 x305001_1 x305002_1)∧Aside0 (Below w.heap.size w w'))
 case atStart=>exact ⟨(y310),(0),(t308),(t309),zJJ,H',⟨Nat.le_refl _⟩,⟨by refine zrR ?_;exact Kd.R_mono HO307.1 (fun _ hk=>hk.1)⟩,⟨by refine zrN ?_;exact HO312.1⟩,⟨zB36⟩,⟨zB37⟩⟩
 case round=>
  clear H'
  obtain ⟨x7_1,x8_1,x305001_1,x305002_1,rfl,HA,HK1,HO_6,HO_7,HI304,HB⟩:=hrel
  cases gk with
  |zero=>exact absurd HA.1 (by simp [spec_DrawFlatRun.l0])
  |succ k1=>
   have H:=HA.1
   clear HA
   simp only [spec_DrawFlatRun.l0] at H
   replace H:=zO H
   obtain ⟨⟨t313,t314,t315⟩,A8,H⟩:=H
   try dsimp only at H
   by_cases c9:x8_1<(wrap64 (1+t313))
   ·rw [if_pos c9] at H
    have c9b0:=decide_eq_true c9
    clear c9
    replace H:=zO H
    obtain ⟨⟨t316,t319,t320,t321,t322⟩,A10,H⟩:=H
    try dsimp only at H
    replace H:=zIn H
    obtain ⟨LMc11,H⟩:=H
    generalize hy323:((x7_1++[(⟨t316,t319,t320⟩:S53)]):List (S53))=y323 at H
    have Ny323:=zM hy323.symm
    clear hy323
    have H':=zM H
    clear H
    go_wp2_with (first|((with_reducible refine zG Try.func90 18 #[.pointer (some ⟨g304,0,none⟩),.int .i64 3] ?_);(with_reducible refine (spec_l1Below.calls g304 t301 x305001_1 x305002_1 3 t313 t314 t315 w _ ?side1 ?side2 A8.1).mono ?_);(case side1=>exact zB36);(case side2=>exact zB37);rintro e w12 ⟨rfl,hi,hb,hk⟩;refine ⟨_,rfl,?_⟩;replace HO_6:=zM (Kd.R_mono (Kd.R_keep (IsS106.apart (show IsS106 w _ g304 t301 x305001_1 x305002_1 from zB36) (zR HO_6.1) (by decide)) hk (fun _ h=>h.2)) (fun _ h=>h.1));replace HO_7:=zM (Kd.N_mono (Kd.N_keep (Kd.N_mono (ok:=fun k_=>(((w.heap.size≤k_))∧(some k_≠(v306:Value).ownBlock∧k_≠g304))) (by refine zrN ?_;exact HO_7.1) (fun k_ hk_=>(⟨hk_,hk_.2.2⟩:_∧k_≠g304))) hk (fun _ h=>h.2)) (fun _ h=>h.1));replace HB:=zM hb;replace HI304:=zM hi;clear hb hk hi)|((with_reducible refine zG Try.func84 25 #[.pointer (some ⟨g304,0,none⟩)] ?_);(with_reducible refine (spec_l9DrawHart.calls k1 g304 t301 t314 t315 t316 t319 t320 t321 t322 w _ ?side1 ?side2 A10.1).mono ?_);(case side1=>exact zB36);(case side2=>exact zB37);rintro e w13 ⟨v317,rfl,ho0,hi,hb,hk⟩;refine ⟨_,rfl,?_⟩;replace HO_7:=zM (Kd.N_mono (Kd.N_told (Kd.N_oldK (Kd.N_mono (ok:=fun k_=>(((w.heap.size≤k_))∧(some k_≠(v306:Value).ownBlock∧k_≠g304))) (by refine zrN ?_;exact HO_7.1) (fun k_ hk_=>(⟨hk_,hk_.2.2⟩:_∧k_≠g304))) hk) (Kd.Q_base ho0)) (fun _ h_=>h_.1));have HO318:=zM (Kd.Q_lower (Kd.Q_new' (Kd.Q_newM (M:=fun k_=>(w.heap.size≤k_)) ho0 (below_size zB37) (fun k_ h_=>h_)) (Kd.R_lt (zR HO_6.1))) (below_size zB37));replace HO_6:=zM (Kd.R_mono (Kd.R_told (Kd.R_oldK (IsS106.apart (show IsS106 w _ g304 t301 t314 t315 from zB36) (zR HO_6.1) (by decide)) hk) (Kd.Q_base ho0)) (fun _ h_=>h_.1));replace HB:=zM hb;replace HI304:=zM hi;clear hb hk hi ho0;obtain ⟨Ao15,co15,eo15,_⟩:=Kd.Q_slice HO318.1;subst eo15)|((with_reducible refine gate_builtin (b:= .append) (xs:=#[.tmp 23,.tmp 26]) rfl ?_);at_builtin;refine Kd.N_append k53 (w0:=w) w.heap.size rfl (.tmp 23) (.tmp 26) 25 53 (.agg #[(.slice none 0 0),(.int .i64 0),(.int .i64 0)]) 40 rfl Try.underlying25 info53 rfl (by decide) (by omega) u7 x7_1 (⟨t316,t319,t320⟩:S53) [.slice Ao15 t316.length co15,.int .i64 t319,.int .i64 t320] (fun k_=>(w.heap.size≤k_)∧some k_≠(v306:Value).ownBlock∧k_≠g304) (fun k_=>((fun k_=>(w.heap.size≤k_)∧some k_≠(v306:Value).ownBlock∧k_≠g304)) k_∧some k_≠(u7:Value).ownBlock) rfl rfl ?aP (fun _ hk=>hk) ?aF ?aO ?aB ?aS ?aL ?_;(case aP=>exact (k53_mkF _ _ (⟨t316,t319,t320⟩:S53) (Kd.Q_reads' (Kd.Q_mono (ok':=(fun k_=>((fun k_=>(w.heap.size≤k_)∧some k_≠(v306:Value).ownBlock∧k_≠g304)) k_∧some k_≠(u7:Value).ownBlock)) (IsS106.apartQ HI304.1 (Kd.Q_apart' (HO318.1) (Kd.N_typed HO_7.1) (by decide)) (by decide)) (fun k_ hk=>⟨⟨hk.1.1.1.1,⟨hk.1.1.2,hk.2⟩⟩,hk.1.2⟩))).2.1 (Kd.Q_F (Kd.Q_mono (ok':=(fun k_=>((fun k_=>(w.heap.size≤k_)∧some k_≠(v306:Value).ownBlock∧k_≠g304)) k_∧some k_≠(u7:Value).ownBlock)) (IsS106.apartQ HI304.1 (Kd.Q_apart' (HO318.1) (Kd.N_typed HO_7.1) (by decide)) (by decide)) (fun k_ hk=>⟨⟨hk.1.1.1.1,⟨hk.1.1.2,hk.2⟩⟩,hk.1.2⟩)))));(case aB=>exact zB37);(case aF=>exact (fun k_ hk=>⟨(Nat.le_trans (below_size zB37) hk),Kd.fresh' (Kd.R_lt (zR HO_6.1)) k_ hk,IsS106.fresh zB36 k_ hk⟩));(case aO=>exact (by refine zrN ?_;exact Kd.N_mono HO_7.1 (fun _ hk=>⟨hk.1.1,⟨hk.1.2.1,hk.1.2.2⟩⟩)));(case aS=>exact (below_size zB37));(case aL=>have:=LMc11.out;omega);intro v324 w14 ho hb hg hat;rw [←Ny323.1] at ho;replace HO_6:=zM (Kd.R_over' (zR HO_6.1) (Kd.N_typed (by refine zrN ?_;exact HO_7.1)) (by decide) hg);replace HI304:=zM (IsS106.grown (show IsS106 w _ g304 t301 t321 t322 from zB36) hg (IsS106.own_neN HI304.1 HO_7.1 (by decide)));replace HB:=zM hb;have HO325:=zM ho;clear HO_7 HO318;clear ho hb hg hat))
    go_roundg k1
    case measure=>have:=HK1.1;omega
    case rel=>exact ⟨(y323),(wrap64 (x8_1+1)),(t321),(t322),zJJ,H',⟨by have:=HK1.1;omega⟩,⟨by refine zrR ?_;exact Kd.R_mono HO_6.1 (fun _ hk=>hk.1)⟩,⟨by refine zrN ?_;exact HO325.1⟩,⟨zB36⟩,⟨zB37⟩⟩
   rw [if_neg c9] at H
   have c9b0:=decide_eq_false c9
   clear c9
   generalize hy326:((([]:List Int)):List Int)=y326 at H
   have Ny326:=zM hy326.symm
   clear hy326
   have H':=zM H
   clear H
   go_wp2_with (first|((with_reducible refine zG Try.func90 18 #[.pointer (some ⟨g304,0,none⟩),.int .i64 3] ?_);(with_reducible refine (spec_l1Below.calls g304 t301 x305001_1 x305002_1 3 t313 t314 t315 w _ ?side1 ?side2 A8.1).mono ?_);(case side1=>exact zB36);(case side2=>exact zB37);rintro e w16 ⟨rfl,hi,hb,hk⟩;refine ⟨_,rfl,?_⟩;replace HO_6:=zM (Kd.R_mono (Kd.R_keep (IsS106.apart (show IsS106 w _ g304 t301 x305001_1 x305002_1 from zB36) (zR HO_6.1) (by decide)) hk (fun _ h=>h.2)) (fun _ h=>h.1));replace HO_7:=zM (Kd.N_mono (Kd.N_keep (Kd.N_mono (ok:=fun k_=>(((w.heap.size≤k_))∧(some k_≠(v306:Value).ownBlock∧k_≠g304))) (by refine zrN ?_;exact HO_7.1) (fun k_ hk_=>(⟨hk_,hk_.2.2⟩:_∧k_≠g304))) hk (fun _ h=>h.2)) (fun _ h=>h.1));replace HB:=zM hb;replace HI304:=zM hi;clear hb hk hi)|((with_reducible refine gate_dst (N:=28) rfl ?_);refine Kd.R_lit (Kd.int .i64) _ 3 ?hg (N:=28) ?hd (xs:=([]:List Int)) (inner:=[]) (ok:=fun _=>True) (okp:=fun _=>True) ?hr ?hp (fun _ hk=>hk) trivial (Below.refl _ _) (Nat.le_refl _) (by simp) ?_;(case hd=>rfl);(case hg=>rfl);(case hr=>exact zHH);(case hp=>exact (Reps.none _ _));intro v327 w17 ho18 hb hg_ hnew_;clear hg_ hnew_;(first|rw [←Ny326.1] at ho18|(simp only [Int.reduceToNat] at ho18;rw [←Ny326.1] at ho18));replace HO_7:=zM (Kd.N_elder' (by refine zrN ?_;exact HO_7.1) (Kd.R_base ho18) hb);have HO328:=zM (Kd.R_lower (Kd.R_new' (Kd.R_newM (M:=fun k_=>(w.heap.size≤k_)) ho18 (below_size zB37) (fun k_ h_=>h_)) (Kd.R_lt (zR HO_6.1))) (below_size zB37));replace HO_6:=zM (Kd.R_elder' (zR HO_6.1) (Kd.R_base ho18) hb);replace HB:=zM (below_step zB37 hb);replace HI304:=zM (IsS106.below zB36 hb);clear hb ho18))
   go_loopg [9,10] k1 (fun kq v9 v10 w'=>∃(x9_2:List Int) (x10_2:Int) (x305001_2:Int) (x305002_2:Int),v10= .int .i64 x10_2∧Aside0 (spec_DrawFlatRun.l1 kq t305 x7_1 x9_2 x10_2 t301 x305001_2 x305002_2=some (r1,r2,r3))∧Aside0 (kq≤k1)∧Aside0 (Kd.R (Kd.int .i64) 3 w' w.heap.size (fun k_=>(w.heap.size≤k_)∧some k_≠(v9:Value).ownBlock) v306 t305)∧Aside0 (Kd.N k53 53 w' w.heap.size (fun k_=>(w.heap.size≤k_)∧some k_≠(v306:Value).ownBlock∧some k_≠(v9:Value).ownBlock∧k_≠g304) u7 x7_1)∧Aside0 (Kd.R (Kd.int .i64) 3 w' w.heap.size (fun k_=>(w.heap.size≤k_)∧some k_≠(v306:Value).ownBlock) v9 x9_2)∧Aside0 (IsS106 w w' g304 t301 x305001_2 x305002_2)∧Aside0 (Below w.heap.size w w'))
   case atStart=>exact ⟨(y326),(0),(t314),(t315),zJJ,H',⟨Nat.le_refl _⟩,⟨zR HO_6.1⟩,⟨by refine zrN ?_;exact Kd.N_mono HO_7.1 (fun _ hk=>⟨hk.1.1,⟨hk.1.2.1,⟨hk.2,hk.1.2.2⟩⟩⟩)⟩,⟨by refine zrR ?_;exact Kd.R_mono HO328.1 (fun _ hk=>⟨hk.1.1,hk.2⟩)⟩,⟨zB36⟩,⟨zB37⟩⟩
   case round=>
    clear H'
    obtain ⟨x9_2,x10_2,x305001_2,x305002_2,rfl,HA,HK2,HO_6,HO_7,HO_9,HI304,HB⟩:=hrel
    cases gk with
    |zero=>exact absurd HA.1 (by simp [spec_DrawFlatRun.l1])
    |succ k2=>
     have H:=HA.1
     clear HA
     simp only [spec_DrawFlatRun.l1] at H
     replace H:=zO H
     obtain ⟨⟨t329,t330,t331⟩,A19,H⟩:=H
     try dsimp only at H
     by_cases c20:x10_2<t329
     ·rw [if_pos c20] at H
      have c20b0:=decide_eq_true c20
      clear c20
      replace H:=zO H
      obtain ⟨⟨t332,t333,t334⟩,A21,H⟩:=H
      try dsimp only at H
      replace H:=zIn H
      obtain ⟨LMc22,H⟩:=H
      generalize hy335:((x9_2++[t332]):List Int)=y335 at H
      have Ny335:=zM hy335.symm
      clear hy335
      have H':=zM H
      clear H
      go_wp2_with (first|((with_reducible refine zG Try.func90 31 #[.pointer (some ⟨g304,0,none⟩),.int .i64 40] ?_);(with_reducible refine (spec_l1Below.calls g304 t301 x305001_2 x305002_2 40 t329 t330 t331 w _ ?side1 ?side2 A19.1).mono ?_);(case side1=>exact zB36);(case side2=>exact zB37);rintro e w23 ⟨rfl,hi,hb,hk⟩;refine ⟨_,rfl,?_⟩;replace HO_6:=zM (Kd.R_mono (Kd.R_keep (IsS106.apart (show IsS106 w _ g304 t301 x305001_2 x305002_2 from zB36) (zR HO_6.1) (by decide)) hk (fun _ h=>h.2)) (fun _ h=>h.1));replace HO_7:=zM (Kd.N_mono (Kd.N_keep (Kd.N_mono (ok:=fun k_=>(((w.heap.size≤k_))∧(some k_≠(v306:Value).ownBlock∧(some k_≠(u9:Value).ownBlock∧k_≠g304)))) (by refine zrN ?_;exact HO_7.1) (fun k_ hk_=>(⟨hk_,hk_.2.2.2⟩:_∧k_≠g304))) hk (fun _ h=>h.2)) (fun _ h=>h.1));replace HO_9:=zM (Kd.R_mono (Kd.R_keep (IsS106.apart (show IsS106 w _ g304 t301 x305001_2 x305002_2 from zB36) (zR HO_9.1) (by decide)) hk (fun _ h=>h.2)) (fun _ h=>h.1));replace HB:=zM hb;replace HI304:=zM hi;clear hb hk hi)|((with_reducible refine zG Try.func90 37 #[.pointer (some ⟨g304,0,none⟩),.int .i64 4] ?_);(with_reducible refine (spec_l1Below.calls g304 t301 t330 t331 4 t332 t333 t334 w _ ?side1 ?side2 A21.1).mono ?_);(case side1=>exact zB36);(case side2=>exact zB37);rintro e w24 ⟨rfl,hi,hb,hk⟩;refine ⟨_,rfl,?_⟩;replace HO_6:=zM (Kd.R_mono (Kd.R_keep (IsS106.apart (show IsS106 w _ g304 t301 t330 t331 from zB36) (zR HO_6.1) (by decide)) hk (fun _ h=>h.2)) (fun _ h=>h.1));replace HO_7:=zM (Kd.N_mono (Kd.N_keep (Kd.N_mono (ok:=fun k_=>(((w.heap.size≤k_))∧(some k_≠(v306:Value).ownBlock∧(some k_≠(u9:Value).ownBlock∧k_≠g304)))) (by refine zrN ?_;exact HO_7.1) (fun k_ hk_=>(⟨hk_,hk_.2.2.2⟩:_∧k_≠g304))) hk (fun _ h=>h.2)) (fun _ h=>h.1));replace HO_9:=zM (Kd.R_mono (Kd.R_keep (IsS106.apart (show IsS106 w _ g304 t301 t330 t331 from zB36) (zR HO_9.1) (by decide)) hk (fun _ h=>h.2)) (fun _ h=>h.1));replace HB:=zM hb;replace HI304:=zM hi;clear hb hk hi)|((with_reducible refine gate_builtin (b:= .append) (xs:=#[.tmp 35,.tmp 38]) rfl ?_);at_builtin;refine Kd.R_append (Kd.int .i64) (w0:=w) w.heap.size rfl (.tmp 35) (.tmp 38) 24 3 (.int .i64 0) 8 rfl Try.underlying24 info3 rfl (by decide) (by omega) u9 x9_2 t332 [.int .i64 t332] (fun k_=>(w.heap.size≤k_)∧some k_≠(v306:Value).ownBlock) (fun _=>False) rfl rfl ?aP (fun _ hk=>hk.elim) ?aF ?aO ?aB ?aS ?aL ?_;(case aP=>exact rfl);(case aB=>exact zB37);(case aF=>exact (fun k_ hk=>⟨(Nat.le_trans (below_size zB37) hk),Kd.fresh' (Kd.R_lt (zR HO_6.1)) k_ hk⟩));(case aO=>exact (zR HO_9.1));(case aS=>exact (below_size zB37));(case aL=>have:=LMc22.out;omega);intro v336 w25 ho hb hg hat;rw [←Ny335.1] at ho;replace HO_6:=zM (Kd.R_after (ok:=(fun k_=>(w.heap.size≤k_))) (zR HO_6.1) hg hat);replace HO_7:=zM (Kd.N_afterv (ok:=(fun k_=>(w.heap.size≤k_)∧some k_≠(v306:Value).ownBlock∧k_≠g304)) (by refine zrN ?_;exact Kd.N_mono HO_7.1 (fun _ hk=>⟨⟨hk.1,⟨hk.2.1,hk.2.2.2⟩⟩,hk.2.2.1⟩)) hg hat);replace HI304:=zM (IsS106.grown (show IsS106 w _ g304 t301 t333 t334 from zB36) hg (IsS106.own_ne HI304.1 HO_9.1 (by decide)));replace HB:=zM hb;have HO337:=zM ho;clear HO_9;clear ho hb hg hat))
      go_roundg k2
      case measure=>have:=HK1.1;have:=HK2.1;omega
      case rel=>exact ⟨(y335),(wrap64 (x10_2+1)),(t333),(t334),zJJ,H',⟨by have:=HK1.1;have:=HK2.1;omega⟩,⟨zR HO_6.1⟩,⟨by refine zrN ?_;exact Kd.N_mono HO_7.1 (fun _ hk=>⟨hk.1.1,⟨hk.1.2.1,⟨hk.2,hk.1.2.2⟩⟩⟩)⟩,⟨zR HO337.1⟩,⟨zB36⟩,⟨zB37⟩⟩
     rw [if_neg c20] at H
     have c20b0:=decide_eq_false c20
     clear c20
     replace H:=zO H
     obtain ⟨⟨t338,t339,t340⟩,A26,H⟩:=H
     try dsimp only at H
     by_cases c27:t338=true
     rotate_left
     ·replace c27:=Bool.eq_false_iff.mpr c27
      subst c27
      rw [if_neg zF] at H
      simp only [Option.some.injEq,Prod.mk.injEq] at H
      obtain ⟨rfl,rfl,rfl⟩:=H
      go_wp2_with (first|((with_reducible refine zG Try.func90 31 #[.pointer (some ⟨g304,0,none⟩),.int .i64 40] ?_);(with_reducible refine (spec_l1Below.calls g304 t301 x305001_2 x305002_2 40 t329 t330 t331 w _ ?side1 ?side2 A19.1).mono ?_);(case side1=>exact zB36);(case side2=>exact zB37);rintro e w37 ⟨rfl,hi,hb,hk⟩;refine ⟨_,rfl,?_⟩;replace HO_6:=zM (Kd.R_mono (Kd.R_keep (IsS106.apart (show IsS106 w _ g304 t301 x305001_2 x305002_2 from zB36) (zR HO_6.1) (by decide)) hk (fun _ h=>h.2)) (fun _ h=>h.1));replace HO_7:=zM (Kd.N_mono (Kd.N_keep (Kd.N_mono (ok:=fun k_=>(((w.heap.size≤k_))∧(some k_≠(v306:Value).ownBlock∧(some k_≠(u9:Value).ownBlock∧k_≠g304)))) (by refine zrN ?_;exact HO_7.1) (fun k_ hk_=>(⟨hk_,hk_.2.2.2⟩:_∧k_≠g304))) hk (fun _ h=>h.2)) (fun _ h=>h.1));replace HO_9:=zM (Kd.R_mono (Kd.R_keep (IsS106.apart (show IsS106 w _ g304 t301 x305001_2 x305002_2 from zB36) (zR HO_9.1) (by decide)) hk (fun _ h=>h.2)) (fun _ h=>h.1));replace HB:=zM hb;replace HI304:=zM hi;clear hb hk hi)|((with_reducible refine zG Try.func56 41 #[.pointer (some ⟨g304,0,none⟩),.int .i64 60] ?_);(with_reducible refine (spec_l1Once.calls g304 t301 t330 t331 60 false t339 t340 w _ ?side1 ?side2 A26.1).mono ?_);(case side1=>exact zB36);(case side2=>exact zB37);rintro e w38 ⟨rfl,hi,hb,hk⟩;refine ⟨_,rfl,?_⟩;replace HO_6:=zM (Kd.R_mono (Kd.R_keep (IsS106.apart (show IsS106 w _ g304 t301 t330 t331 from zB36) (zR HO_6.1) (by decide)) hk (fun _ h=>h.2)) (fun _ h=>h.1));replace HO_7:=zM (Kd.N_mono (Kd.N_keep (Kd.N_mono (ok:=fun k_=>(((w.heap.size≤k_))∧(some k_≠(v306:Value).ownBlock∧(some k_≠(u9:Value).ownBlock∧k_≠g304)))) (by refine zrN ?_;exact HO_7.1) (fun k_ hk_=>(⟨hk_,hk_.2.2.2⟩:_∧k_≠g304))) hk (fun _ h=>h.2)) (fun _ h=>h.1));replace HO_9:=zM (Kd.R_mono (Kd.R_keep (IsS106.apart (show IsS106 w _ g304 t301 t330 t331 from zB36) (zR HO_9.1) (by decide)) hk (fun _ h=>h.2)) (fun _ h=>h.1));replace HB:=zM hb;replace HI304:=zM hi;clear hb hk hi))
      go_ret3
      exact ⟨_,_,_,zE,zR HO_6.1,by refine zrN ?_;exact Kd.N_mono HO_7.1 (fun _ hk=>⟨hk.1,⟨hk.2.1,hk.2.2.1⟩⟩),zR HO_9.1,zB37⟩
     subst c27
     rw [if_pos rfl] at H
     replace H:=zO H
     obtain ⟨⟨t341,t342,t343⟩,A28,H⟩:=H
     try dsimp only at H
     obtain ⟨ji29,hji29⟩: ∃j_:Int,(wrap64 (2000+t341))=j_:=⟨_,rfl⟩
     replace H:(if 0≤(ji29) then (if (ji29:Int).toNat≤35184372088832 then (some (t305,x7_1,(List.replicate (ji29:Int).toNat 0))) else (none)) else (none))=some (r1,r2,r3):=by first|(rw [hji29] at H;exact H)|(simp only [hji29] at H ⊢;exact H)
     (try rw [hji29] at A19)
     (try rw [hji29] at A26)
     (try rw [hji29] at A28)
     have hji29w:(IntKind.i64.wrap (2000+t341))=ji29:=(i64_w _).trans hji29
     replace H:=zIp H
     obtain ⟨c30,H⟩:=H
     have c30b0:=eq_true c30
     have c30b1:decide (0≤(ji29))=true:=decide_eq_true c30
     clear c30
     replace H:=zIp H
     obtain ⟨c31,H⟩:=H
     have c31b0:=eq_true c31
     have c31b1:decide ((ji29:Int).toNat≤35184372088832)=true:=decide_eq_true c31
     clear c31
     generalize hy344:((List.replicate (ji29:Int).toNat 0):List Int)=y344 at H
     have Ny344:=zM hy344.symm
     clear hy344
     simp only [Option.some.injEq,Prod.mk.injEq] at H
     obtain ⟨rfl,rfl,rfl⟩:=H
     go_wp2_with (first|((with_reducible refine zG Try.func90 31 #[.pointer (some ⟨g304,0,none⟩),.int .i64 40] ?_);(with_reducible refine (spec_l1Below.calls g304 t301 x305001_2 x305002_2 40 t329 t330 t331 w _ ?side1 ?side2 A19.1).mono ?_);(case side1=>exact zB36);(case side2=>exact zB37);rintro e w32 ⟨rfl,hi,hb,hk⟩;refine ⟨_,rfl,?_⟩;replace HO_6:=zM (Kd.R_mono (Kd.R_keep (IsS106.apart (show IsS106 w _ g304 t301 x305001_2 x305002_2 from zB36) (zR HO_6.1) (by decide)) hk (fun _ h=>h.2)) (fun _ h=>h.1));replace HO_7:=zM (Kd.N_mono (Kd.N_keep (Kd.N_mono (ok:=fun k_=>(((w.heap.size≤k_))∧(some k_≠(v306:Value).ownBlock∧(some k_≠(u9:Value).ownBlock∧k_≠g304)))) (by refine zrN ?_;exact HO_7.1) (fun k_ hk_=>(⟨hk_,hk_.2.2.2⟩:_∧k_≠g304))) hk (fun _ h=>h.2)) (fun _ h=>h.1));replace HO_9:=zM (Kd.R_mono (Kd.R_keep (IsS106.apart (show IsS106 w _ g304 t301 x305001_2 x305002_2 from zB36) (zR HO_9.1) (by decide)) hk (fun _ h=>h.2)) (fun _ h=>h.1));replace HB:=zM hb;replace HI304:=zM hi;clear hb hk hi)|((with_reducible refine zG Try.func56 41 #[.pointer (some ⟨g304,0,none⟩),.int .i64 60] ?_);(with_reducible refine (spec_l1Once.calls g304 t301 t330 t331 60 true t339 t340 w _ ?side1 ?side2 A26.1).mono ?_);(case side1=>exact zB36);(case side2=>exact zB37);rintro e w33 ⟨rfl,hi,hb,hk⟩;refine ⟨_,rfl,?_⟩;replace HO_6:=zM (Kd.R_mono (Kd.R_keep (IsS106.apart (show IsS106 w _ g304 t301 t330 t331 from zB36) (zR HO_6.1) (by decide)) hk (fun _ h=>h.2)) (fun _ h=>h.1));replace HO_7:=zM (Kd.N_mono (Kd.N_keep (Kd.N_mono (ok:=fun k_=>(((w.heap.size≤k_))∧(some k_≠(v306:Value).ownBlock∧(some k_≠(u9:Value).ownBlock∧k_≠g304)))) (by refine zrN ?_;exact HO_7.1) (fun k_ hk_=>(⟨hk_,hk_.2.2.2⟩:_∧k_≠g304))) hk (fun _ h=>h.2)) (fun _ h=>h.1));replace HO_9:=zM (Kd.R_mono (Kd.R_keep (IsS106.apart (show IsS106 w _ g304 t301 t330 t331 from zB36) (zR HO_9.1) (by decide)) hk (fun _ h=>h.2)) (fun _ h=>h.1));replace HB:=zM hb;replace HI304:=zM hi;clear hb hk hi)|((with_reducible refine zG Try.func90 43 #[.pointer (some ⟨g304,0,none⟩),.int .i64 2] ?_);(with_reducible refine (spec_l1Below.calls g304 t301 t339 t340 2 t341 t342 t343 w _ ?side1 ?side2 A28.1).mono ?_);(case side1=>exact zB36);(case side2=>exact zB37);rintro e w34 ⟨rfl,hi,hb,hk⟩;refine ⟨_,rfl,?_⟩;replace HO_6:=zM (Kd.R_mono (Kd.R_keep (IsS106.apart (show IsS106 w _ g304 t301 t339 t340 from zB36) (zR HO_6.1) (by decide)) hk (fun _ h=>h.2)) (fun _ h=>h.1));replace HO_7:=zM (Kd.N_mono (Kd.N_keep (Kd.N_mono (ok:=fun k_=>(((w.heap.size≤k_))∧(some k_≠(v306:Value).ownBlock∧(some k_≠(u9:Value).ownBlock∧k_≠g304)))) (by refine zrN ?_;exact HO_7.1) (fun k_ hk_=>(⟨hk_,hk_.2.2.2⟩:_∧k_≠g304))) hk (fun _ h=>h.2)) (fun _ h=>h.1));replace HO_9:=zM (Kd.R_mono (Kd.R_keep (IsS106.apart (show IsS106 w _ g304 t301 t339 t340 from zB36) (zR HO_9.1) (by decide)) hk (fun _ h=>h.2)) (fun _ h=>h.1));replace HB:=zM hb;replace HI304:=zM hi;clear hb hk hi)|((with_reducible refine gate_dst (N:=45) rfl ?_);refine Kd.R_make (Kd.int .i64) _ 3 rfl (N:=45) rfl 24 _ _ rfl ji29 rfl rfl Try.underlying24 (.int .i64 0) 8 info3 rfl (by decide) (by omega) 0 (ok:=fun _=>True) (okp:=fun _=>True) rfl (fun _ hk=>hk) trivial zA (Nat.le_trans (Nat.mul_le_mul_right _ (zA:ji29.toNat≤35184372088832)) (by omega)) (Below.refl _ _) (Nat.le_refl _) ?_;intro v345 w35 ho36 hb hg_ hnew_;clear hg_ hnew_;(first|rw [←Ny344.1] at ho36|(simp only [Int.reduceToNat] at ho36;rw [←Ny344.1] at ho36));replace HO_7:=zM (Kd.N_elder' (by refine zrN ?_;exact HO_7.1) (Kd.R_base ho36) hb);have HO346:=zM (Kd.R_lower (Kd.R_new' (Kd.R_new' (Kd.R_newM (M:=fun k_=>(w.heap.size≤k_)) ho36 (below_size zB37) (fun k_ h_=>h_)) (Kd.R_lt (zR HO_6.1))) (Kd.R_lt (zR HO_9.1))) (below_size zB37));replace HO_6:=zM (Kd.R_elder' (zR HO_6.1) (Kd.R_base ho36) hb);replace HO_9:=zM (Kd.R_elder' (zR HO_9.1) (Kd.R_base ho36) hb);replace HB:=zM (below_step zB37 hb);replace HI304:=zM (IsS106.below zB36 hb);clear hb ho36))
     go_ret3
     exact ⟨_,_,_,by first|rfl|(simp [errW_none,errW_some]<;>rfl)|(simp only [←hji29];first|rfl|(simp [errW_none,errW_some]<;>rfl))|(simp [*,errW_none,errW_some]<;>rfl),by refine zrR ?_;exact Kd.R_mono HO_6.1 (fun _ hk=>⟨hk.1.1,hk.2⟩),by refine zrN ?_;exact Kd.N_mono HO_7.1 (fun _ hk=>⟨hk.1.1,⟨hk.1.2.1,hk.2⟩⟩),by refine zrR ?_;exact Kd.R_mono HO346.1 (fun _ hk=>⟨hk.1.1.1,hk.1.2⟩),zB37⟩

/-! ### spec_l1Words: function 96 -/
def spec_l1Words.l0:Nat→List Int→Int→Int→Option (Bool)
 |0,_,_,_=>none
 |k+1,x0,x1,x5=>if x5<(x0.length:Int) then (if 0≤x5 then ((spec_l1In.f (rd x0 x5) 0 65535).bind fun t348=>(if t348=true then (spec_l1Words.l0 k x0 x1 (wrap64 (x5+1))) else (some false))) else (none)) else (some ((x0.length:Int) == x1))
def spec_l1Words.f (k:Nat) (l0:List Int) (a1:Int):Option (Bool):=spec_l1Words.l0 k l0 a1 0
theorem spec_l1Words.mono_l: ∀k,(∀y0 y1 y2,LeO (spec_l1Words.l0 k y0 y1 y2) (spec_l1Words.l0 (k+1) y0 y1 y2))
 |0=>fun _ _ _ r h=>by simp [spec_l1Words.l0] at h
 |k+1=>by
  have ih0:=spec_l1Words.mono_l k
  ·intros
   unfold spec_l1Words.l0
   exact zL
theorem spec_l1Words.mono: ∀a0 a1 k,LeO (spec_l1Words.f k a0 a1) (spec_l1Words.f (k+1) a0 a1):=by
 intro a0 a1 k
 have ih0:=spec_l1Words.mono_l k
 unfold spec_l1Words.f
 exact zL
theorem spec_l1Words.calls (k:Nat) (A0:Option Addr) (c0:Nat) (l0:List Int) (a1:Int) (r:Bool) (w:World) (hr0:Kd.C (Kd.int .i64) w A0 l0.length l0) (hc0:l0.length≤c0) (h:spec_l1Words.f k l0 a1=some r):
  Calls Try.prog 96 #[.slice A0 l0.length c0,.int .i64 a1] w fun e w'=>e= .returned (.bool r)∧Drawn0 w w':=by
 have HR0:=zM hr0
 have HC0:=zM hc0
 clear hr0 hc0
 unfold spec_l1Words.f at h
 have H:=h
 clear h
 have H':=zM H
 clear H
 go_enter Try.func96,Try.ntmps96
 go_wp2
 go_loopg [5] k (fun kq v5 w'=>∃(x5_1:Int),v5= .int .i64 x5_1∧Aside0 (spec_l1Words.l0 kq l0 a1 x5_1=some r)∧Aside0 (kq≤k)∧Drawn0 w w')
 case atStart=>exact ⟨(0),zJJ,H',⟨Nat.le_refl _⟩,zDD⟩
 case round=>
  clear H'
  obtain ⟨x5_1,rfl,HA,HK1,⟨m1,rfl⟩⟩:=hrel
  cases gk with
  |zero=>exact absurd HA.1 (by simp [spec_l1Words.l0])
  |succ k1=>
   have H:=HA.1
   clear HA
   simp only [spec_l1Words.l0] at H
   by_cases c3:x5_1<(l0.length:Int)
   rotate_left
   ·rw [if_neg c3] at H
    have c3b0:=decide_eq_false c3
    clear c3
    obtain rfl:=Option.some.inj H
    go_wp2
    go_ret
    exact ⟨zJJ,zDD⟩
   rw [if_pos c3] at H
   have c3b0:=decide_eq_true c3
   clear c3
   replace H:=zIt H
   obtain ⟨c4b0,H⟩:=H
   replace H:=zO H
   obtain ⟨t348,A5,H⟩:=H
   by_cases c6:t348=true
   rotate_left
   ·replace c6:=Bool.eq_false_iff.mpr c6
    subst c6
    rw [if_neg zF] at H
    obtain rfl:=Option.some.inj H
    obtain ⟨p347,q347,ad347,e347,hx347_0⟩:=zRd (Kd.at_int HR0.1 x5_1)
    cases e347
    go_wp2_with (first|((with_reducible refine zG Try.func68 16 #[.int .i64 (rd l0 x5_1),.int .i64 0,.int .i64 65535] ?_);(with_reducible refine (spec_l1In.calls (rd l0 x5_1) 0 65535 false _ A5.1).mono ?_);rintro e w' ⟨rfl,⟨nd,rfl⟩⟩;refine ⟨_,rfl,?_⟩))
    go_ret
    exact ⟨zJJ,zDD⟩
   subst c6
   rw [if_pos rfl] at H
   have H':=zM H
   clear H
   obtain ⟨p347,q347,ad347,e347,hx347_0⟩:=zRd (Kd.at_int HR0.1 x5_1)
   cases e347
   go_wp2_with (first|((with_reducible refine zG Try.func68 16 #[.int .i64 (rd l0 x5_1),.int .i64 0,.int .i64 65535] ?_);(with_reducible refine (spec_l1In.calls (rd l0 x5_1) 0 65535 true _ A5.1).mono ?_);rintro e w' ⟨rfl,⟨nd,rfl⟩⟩;refine ⟨_,rfl,?_⟩))
   go_roundg k1
   case measure=>have:=HK1.1;omega
   case rel=>exact ⟨(wrap64 (x5_1+1)),zJJ,H',⟨by have:=HK1.1;omega⟩,zDD⟩

end Go.Proofs.Ytpcgecacaemalaa.PFnStops
