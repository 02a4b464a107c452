-- made by wip/tools/myprint.py out of the seat's translation
import Derived.Test.YtpcgecacaemalaaPFnStopsx0
import Derived.Test.YtpcgecacaemalaaPFnStopsx2
import Derived.Test.YtpcgecacaemalaaPFnStopsx3
import Derived.Test.YtpcgecacaemalaaPFnStopsx4
import Derived.Test.YtpcgecacaemalaaPFnStopsx6
namespace Go.Proofs.Ytpcgecacaemalaa.PFnStops
open Go.RowKit Go.Proofs.YtpcgecacaemalaaW.PrintWords Go.Proofs.YtpcgecacaemalaaW.PrintLast Go.Proofs.YtpcgecacaemalaaW.PrintMore
attribute [local go_sem] max2_int min2_int max_two min_two max_three min_three max_four min_four -- for this text's walks alone
set_option linter.unusedVariables false
set_option linter.unusedSimpArgs false
set_option maxHeartbeats 8000000
set_option maxRecDepth 100000
abbrev zq7_0:Array Bool:=#[false,false,false,false,false,false,false,false]

/-! ### spec_HartOk: function 94 -/
def spec_HartOk.f (k:Nat) (l0_0:List Int) (a0_1:Int) (a0_2:Int):Option (Bool):=(spec_l1Words.f k l0_0 4).bind fun t350=>(if t350=true then ((spec_l1In.f a0_1 0 23).bind fun t351=>(if t351=true then ((spec_l1In.f a0_2 0 2).bind fun t352=>(some t352)) else (some false))) else (some false))
theorem spec_HartOk.mono: ∀a0 a1 a2 k,LeO (spec_HartOk.f k a0 a1 a2) (spec_HartOk.f (k+1) a0 a1 a2):=by
 intro a0 a1 a2 k
 unfold spec_HartOk.f
 have mo0:=@spec_l1Words.mono
 exact zL
theorem spec_HartOk.calls (k:Nat) (A0_0:Option Addr) (c0_0:Nat) (l0_0:List Int) (a0_1:Int) (a0_2:Int) (r:Bool) (w:World) (hr0_0:Kd.C (Kd.int .i64) w A0_0 l0_0.length l0_0) (hc0_0:l0_0.length≤c0_0) (h:spec_HartOk.f k l0_0 a0_1 a0_2=some r):
  Calls Try.prog 94 #[.agg #[.slice A0_0 l0_0.length c0_0,.int .i64 a0_1,.int .i64 a0_2]] w fun e w'=>e= .returned (.bool r)∧Below w.heap.size w w':=by
 have hu53:=Try.underlying53
 have HR0_0:=zM hr0_0
 have HC0_0:=zM hc0_0
 clear hr0_0 hc0_0
 have HB:=zM (Below.refl w.heap.size w)
 unfold spec_HartOk.f at h
 have H:=h
 clear h
 replace H:=zO H
 obtain ⟨t350,A2,H⟩:=H
 by_cases c3:t350=true
 rotate_left
 ·replace c3:=Bool.eq_false_iff.mpr c3
  subst c3
  rw [if_neg zF] at H
  obtain rfl:=Option.some.inj H
  go_enter Try.func94,Try.ntmps94
  go_wp2_with (first|((with_reducible refine zBx 1 53 #[.slice A0_0 l0_0.length c0_0,.int .i64 a0_1,.int .i64 a0_2] ?_);intro gb349 hg w11 hbox hb;have BK349:=zM hbox;have GW349:=zM (zW hg (below_size zB0));have GE349:=zM (zW hg (below_size zB0));replace HB:=zM (below_step zB0 hb);clear hb hbox hg;have hcz12:=zc_3 (w:=w11) BK349.1)|((with_reducible refine zG Try.func96 5 #[.slice A0_0 l0_0.length c0_0,.int .i64 4] ?_);(with_reducible refine (spec_l1Words.calls k _ _ l0_0 4 false _ ?side1 ?side2 A2.1).mono ?_);(case side1=>exact zC (Kd.C_below HR0_0.1 HB.1));(case side2=>exact HC0_0.1);rintro e w' ⟨rfl,⟨nd,rfl⟩⟩;refine ⟨_,rfl,?_⟩))
  go_ret
  exact ⟨zE,zB0⟩
 subst c3
 rw [if_pos rfl] at H
 replace H:=zO H
 obtain ⟨t351,A4,H⟩:=H
 by_cases c5:t351=true
 rotate_left
 ·replace c5:=Bool.eq_false_iff.mpr c5
  subst c5
  rw [if_neg zF] at H
  obtain rfl:=Option.some.inj H
  go_enter Try.func94,Try.ntmps94
  go_wp2_with (first|((with_reducible refine zBx 1 53 #[.slice A0_0 l0_0.length c0_0,.int .i64 a0_1,.int .i64 a0_2] ?_);intro gb349 hg w9 hbox hb;have BK349:=zM hbox;have GW349:=zM (zW hg (below_size zB0));have GE349:=zM (zW hg (below_size zB0));replace HB:=zM (below_step zB0 hb);clear hb hbox hg;have hcz10:=zc_3 (w:=w9) BK349.1)|((with_reducible refine zG Try.func96 5 #[.slice A0_0 l0_0.length c0_0,.int .i64 4] ?_);(with_reducible refine (spec_l1Words.calls k _ _ l0_0 4 true _ ?side1 ?side2 A2.1).mono ?_);(case side1=>exact zC (Kd.C_below HR0_0.1 HB.1));(case side2=>exact HC0_0.1);rintro e w' ⟨rfl,⟨nd,rfl⟩⟩;refine ⟨_,rfl,?_⟩)|(go_at_call 68;(with_reducible refine (spec_l1In.calls a0_1 0 23 false _ A4.1).mono ?_);rintro e w' ⟨rfl,⟨nd,rfl⟩⟩))
  go_ret
  exact ⟨zE,zB0⟩
 subst c5
 rw [if_pos rfl] at H
 replace H:=zO H
 obtain ⟨t352,A6,H⟩:=H
 obtain rfl:=Option.some.inj H
 go_enter Try.func94,Try.ntmps94
 go_wp2_with (first|((with_reducible refine zBx 1 53 #[.slice A0_0 l0_0.length c0_0,.int .i64 a0_1,.int .i64 a0_2] ?_);intro gb349 hg w7 hbox hb;have BK349:=zM hbox;have GW349:=zM (zW hg (below_size zB0));have GE349:=zM (zW hg (below_size zB0));replace HB:=zM (below_step zB0 hb);clear hb hbox hg;have hcz8:=zc_3 (w:=w7) BK349.1)|((with_reducible refine zG Try.func96 5 #[.slice A0_0 l0_0.length c0_0,.int .i64 4] ?_);(with_reducible refine (spec_l1Words.calls k _ _ l0_0 4 true _ ?side1 ?side2 A2.1).mono ?_);(case side1=>exact zC (Kd.C_below HR0_0.1 HB.1));(case side2=>exact HC0_0.1);rintro e w' ⟨rfl,⟨nd,rfl⟩⟩;refine ⟨_,rfl,?_⟩)|(go_at_call 68;(with_reducible refine (spec_l1In.calls a0_1 0 23 true _ A4.1).mono ?_);rintro e w' ⟨rfl,⟨nd,rfl⟩⟩)|(go_at_call 68;(with_reducible refine (spec_l1In.calls a0_2 0 2 t352 _ A6.1).mono ?_);rintro e w' ⟨rfl,⟨nd,rfl⟩⟩))
 go_ret
 exact ⟨zE,zB0⟩

/-! ### spec_l18DrawRun: function 58 -/
mutual
def spec_l18DrawRun.l0:Nat→Int→List Int→List (S53)→Int→List Int→Int→Int→Option (List Int×(List (S53))×List Int×Int×Int)
 |0,_,_,_,_,_,_,_=>none
 |k+1,x1,x7,x8,x9,x1000,x1001,x1002=>(spec_l1Below.f x1000 x1001 x1002 3).bind fun bt361=>(if x9<(wrap64 (1+bt361.1)) then ((spec_l9DrawHart.f k x1000 bt361.2.1 bt361.2.2).bind fun bt364=>((spec_HartOk.f k bt364.1 bt364.2.1 bt364.2.2.1).bind fun t372=>(if t372=true then (if x8.length<3518437208883 then (spec_l18DrawRun.l0 k x1 x7 (x8++[(⟨bt364.1,bt364.2.1,bt364.2.2.1⟩:S53)]) (wrap64 (x9+1)) x1000 bt364.2.2.2.1 bt364.2.2.2.2) else (none)) else ((spec_l1Below.f x1000 bt364.2.2.2.1 bt364.2.2.2.2 20).bind fun bt376=>((spec_HartNew.f bt376.1).bind fun bt379=>(if x8.length<3518437208883 then (spec_l18DrawRun.l0 k x1 x7 (x8++[(⟨bt379.1,bt379.2.1,bt379.2.2⟩:S53)]) (wrap64 (x9+1)) x1000 bt376.2.1 bt376.2.2) else (none))))))) else (spec_l18DrawRun.l1 k x1 x7 x8 (([]:List Int)) 0 x1000 bt361.2.1 bt361.2.2))
def spec_l18DrawRun.l1:Nat→Int→List Int→List (S53)→List Int→Int→List Int→Int→Int→Option (List Int×(List (S53))×List Int×Int×Int)
 |0,_,_,_,_,_,_,_,_=>none
 |k+1,x1,x7,x8,x11,x12,x1000,x1001,x1002=>(spec_l1Below.f x1000 x1001 x1002 x1).bind fun bt390=>(if x12<bt390.1 then ((spec_l1Below.f x1000 bt390.2.1 bt390.2.2 (x8.length:Int)).bind fun bt393=>(if x11.length<17592186044416 then (spec_l18DrawRun.l1 k x1 x7 x8 (x11++[bt393.1]) (wrap64 (x12+1)) x1000 bt393.2.1 bt393.2.2) else (none))) else (some (x7,x8,x11,bt390.2.1,bt390.2.2)))
end
def spec_l18DrawRun.f (k:Nat) (s0_0:List Int) (s0_1:Int) (s0_2:Int) (a1:Int):Option (List Int×(List (S53))×List Int×Int×Int):=(spec_l9DrawMem.f k s0_0 s0_1 s0_2).bind fun bt353=>(spec_l18DrawRun.l0 k a1 bt353.1 (([]:List (S53))) 0 s0_0 bt353.2.1 bt353.2.2)
theorem spec_l18DrawRun.mono_l: ∀k,(∀y0 y1 y2 y3 y4 y5 y6,LeO (spec_l18DrawRun.l0 k y0 y1 y2 y3 y4 y5 y6) (spec_l18DrawRun.l0 (k+1) y0 y1 y2 y3 y4 y5 y6))∧(∀y0 y1 y2 y3 y4 y5 y6 y7,LeO (spec_l18DrawRun.l1 k y0 y1 y2 y3 y4 y5 y6 y7) (spec_l18DrawRun.l1 (k+1) y0 y1 y2 y3 y4 y5 y6 y7))
 |0=>⟨fun _ _ _ _ _ _ _ r h=>by simp [spec_l18DrawRun.l0] at h,fun _ _ _ _ _ _ _ _ r h=>by simp [spec_l18DrawRun.l1] at h⟩
 |k+1=>by
  obtain ⟨ih0,ih1⟩:=spec_l18DrawRun.mono_l k
  refine ⟨?_,?_⟩
  ·intros
   unfold spec_l18DrawRun.l0
   have mo0:=@spec_HartOk.mono
   have mo1:=@spec_l9DrawHart.mono
   have mo2:=@spec_l9DrawMem.mono
   exact zL
  ·intros
   unfold spec_l18DrawRun.l1
   have mo0:=@spec_HartOk.mono
   have mo1:=@spec_l9DrawHart.mono
   have mo2:=@spec_l9DrawMem.mono
   exact zL
theorem spec_l18DrawRun.mono: ∀a0 a1 a2 a3 k,LeO (spec_l18DrawRun.f k a0 a1 a2 a3) (spec_l18DrawRun.f (k+1) a0 a1 a2 a3):=by
 intro a0 a1 a2 a3 k
 obtain ⟨ih0,ih1⟩:=spec_l18DrawRun.mono_l k
 unfold spec_l18DrawRun.f
 have mo0:=@spec_HartOk.mono
 have mo1:=@spec_l9DrawHart.mono
 have mo2:=@spec_l9DrawMem.mono
 exact zL
theorem spec_l18DrawRun.calls (k:Nat) (g:Nat) (s0_0:List Int) (s0_1:Int) (s0_2:Int) (a1:Int) (r1:List Int) (r2:List (S53)) (r3:List Int) (r4:Int) (r5:Int) (w0 w:World) (hI:IsS106 w0 w g s0_0 s0_1 s0_2) (hB:Below w0.heap.size w0 w) (h:spec_l18DrawRun.f k s0_0 s0_1 s0_2 a1=some (r1,r2,r3,r4,r5)):
  Calls Try.prog 58 #[.pointer (some ⟨g,0,none⟩),.int .i64 a1] w fun e w'=>∃v0_ v1_ v2_:Value,e= .returned (.tuple #[v0_,v1_,v2_])∧Kd.R (Kd.int .i64) 3 w' w.heap.size (fun k_=>(w.heap.size≤k_)∧some k_≠(v2_:Value).ownBlock) v0_ r1∧Kd.N k53 53 w' w.heap.size (fun k_=>(w.heap.size≤k_)∧some k_≠(v0_:Value).ownBlock∧some k_≠(v2_:Value).ownBlock) v1_ r2∧Kd.R (Kd.int .i64) 3 w' w.heap.size (fun k_=>(w.heap.size≤k_)∧some k_≠(v0_:Value).ownBlock) v2_ r3∧IsS106 w0 w' g s0_0 r4 r5∧Below w0.heap.size w0 w'∧KeepBut w w' g none:=by
 have hu53:=Try.underlying53
 have HI0:=zM hI
 have HK:=zM (KeepBut.refl w g none)
 have HL:=zM hB.size
 clear hI
 have HW0:=zM hB.size
 have HB:=zM hB
 clear hB
 unfold spec_l18DrawRun.f at h
 have H:=h
 clear h
 replace H:=zO H
 obtain ⟨⟨t353,t356,t357⟩,A3,H⟩:=H
 try dsimp only at H
 generalize hy358:((([]:List (S53))):List (S53))=y358 at H
 have Ny358:=zM hy358.symm
 clear hy358
 have H':=zM H
 clear H
 go_enter Try.func58,Try.ntmps58
 go_wp2_with (first|((with_reducible refine zG Try.func89 14 #[.pointer (some ⟨g,0,none⟩)] ?_);(with_reducible refine (spec_l9DrawMem.calls k g s0_0 s0_1 s0_2 t353 t356 t357 w0 _ ?side1 ?side2 A3.1).mono ?_);(case side1=>exact zB6);(case side2=>exact zB7);rintro e w4 ⟨v354,rfl,ho0,hi,hb,hk⟩;refine ⟨_,rfl,?_⟩;have HO355:=zM (Kd.R_lower (Kd.R_newM (M:=fun k_=>(w.heap.size≤k_)) ho0 (keep_size (w:=w) (g:=g) (row:=none) zB8) (fun k_ h_=>h_)) (keep_size (w:=w) (g:=g) (row:=none) zB8));replace HK:=zM (KeepBut.trans zB8 hk (.inl rfl));replace HB:=zM hb;replace HI0:=zM hi;clear hb hk hi ho0)|((with_reducible refine gate_dst (N:=15) rfl ?_);refine Kd.N_lit k53 _ 53 ?hg (N':=15) ?hd (xs:=([]:List (S53))) (inner:=[]) (ok:=(fun k_=>(w.heap.size≤k_)∧some k_≠(v354:Value).ownBlock∧k_≠g)) (okp:=(fun k_=>(w.heap.size≤k_)∧some k_≠(v354:Value).ownBlock∧k_≠g)) ?hr ?hp (fun _ hk=>hk) ((show ∀k_,w4.heap.size≤k_→(fun k_=>(w.heap.size≤k_)∧some k_≠(v354:Value).ownBlock∧k_≠g) k_ from fun k_ hk=>⟨(Nat.le_trans (keep_size (w:=w) (g:=g) (row:=none) zB8) hk),Kd.fresh' (Kd.R_lt (zR HO355.1)) k_ hk,IsS106.fresh zB6 k_ hk⟩) _ (Nat.le_refl _)) (Below.refl _ _) (Nat.le_refl _) (by simp) ?_;(case hd=>rfl);(case hg=>rfl);(case hr=>exact zHH);(case hp=>exact (Reps.none _ _));intro v359 w5 ho6 hb hg_ hnew_;clear hg_ hnew_;(first|rw [←Ny358.1] at ho6|(simp only [Int.reduceToNat] at ho6;rw [←Ny358.1] at ho6));replace HO355:=zM (Kd.R_below (zR HO355.1) hb);have HO360:=zM (Kd.N_lower ho6 (keep_size (w:=w) (g:=g) (row:=none) zB8));replace HK:=zM (KeepBut.trans zB8 (KeepBut.of_below hb g none) (.inl rfl));replace HB:=zM (below_step zB7 hb);replace HI0:=zM (IsS106.below zB6 hb);clear hb ho6))
 go_loopg [8,9] k (fun kq v8 v9 w'=>∃(x8_1:List (S53)) (x9_1:Int) (x1001_1:Int) (x1002_1:Int),v9= .int .i64 x9_1∧Aside0 (spec_l18DrawRun.l0 kq a1 t353 x8_1 x9_1 s0_0 x1001_1 x1002_1=some (r1,r2,r3,r4,r5))∧Aside0 (kq≤k)∧Aside0 (Kd.R (Kd.int .i64) 3 w' w.heap.size (fun k_=>(w.heap.size≤k_)) v354 t353)∧Aside0 (Kd.N k53 53 w' w.heap.size (fun k_=>(w.heap.size≤k_)∧some k_≠(v354:Value).ownBlock∧k_≠g) v8 x8_1)∧Aside0 (IsS106 w0 w' g s0_0 x1001_1 x1002_1)∧Aside0 (KeepBut w w' g none)∧Aside0 (Below w0.heap.size w0 w'))
 case atStart=>exact ⟨(y358),(0),(t356),(t357),zJJ,H',⟨Nat.le_refl _⟩,⟨by refine zrR ?_;exact Kd.R_mono HO355.1 (fun _ hk=>hk.1)⟩,⟨by refine zrN ?_;exact HO360.1⟩,⟨zB6⟩,⟨zB8⟩,⟨zB7⟩⟩
 case round=>
  clear H'
  obtain ⟨x8_1,x9_1,x1001_1,x1002_1,rfl,HA,HK1,HO_7,HO_8,HI0,HK,HB⟩:=hrel
  cases gk with
  |zero=>exact absurd HA.1 (by simp [spec_l18DrawRun.l0])
  |succ k1=>
   have H:=HA.1
   clear HA
   simp only [spec_l18DrawRun.l0] at H
   replace H:=zO H
   obtain ⟨⟨t361,t362,t363⟩,A7,H⟩:=H
   try dsimp only at H
   by_cases c8:x9_1<(wrap64 (1+t361))
   rotate_left
   ·rw [if_neg c8] at H
    have c8b0:=decide_eq_false c8
    clear c8
    generalize hy387:((([]:List Int)):List Int)=y387 at H
    have Ny387:=zM hy387.symm
    clear hy387
    have H':=zM H
    clear H
    go_wp2_with (first|((with_reducible refine zG Try.func90 18 #[.pointer (some ⟨g,0,none⟩),.int .i64 3] ?_);(with_reducible refine (spec_l1Below.calls g s0_0 x1001_1 x1002_1 3 t361 t362 t363 w0 _ ?side1 ?side2 A7.1).mono ?_);(case side1=>exact zB6);(case side2=>exact zB7);rintro e w39 ⟨rfl,hi,hb,hk⟩;refine ⟨_,rfl,?_⟩;replace HO_7:=zM (Kd.R_mono (Kd.R_keep (IsS106.apart (show IsS106 w0 _ g s0_0 x1001_1 x1002_1 from zB6) (zR HO_7.1) (by decide)) hk (fun _ h=>h.2)) (fun _ h=>h.1));replace HO_8:=zM (Kd.N_mono (Kd.N_keep (Kd.N_mono (ok:=fun k_=>(((w.heap.size≤k_))∧(some k_≠(v354:Value).ownBlock∧k_≠g))) (by refine zrN ?_;exact HO_8.1) (fun k_ hk_=>(⟨hk_,hk_.2.2⟩:_∧k_≠g))) hk (fun _ h=>h.2)) (fun _ h=>h.1));replace HK:=zM (KeepBut.trans zB8 hk (.inl rfl));replace HB:=zM hb;replace HI0:=zM hi;clear hb hk hi)|((with_reducible refine gate_dst (N:=35) rfl ?_);refine Kd.R_lit (Kd.int .i64) _ 3 ?hg (N:=35) ?hd (xs:=([]:List Int)) (inner:=[]) (ok:=fun _=>True) (okp:=fun _=>True) ?hr ?hp (fun _ hk=>hk) trivial (Below.refl _ _) (Nat.le_refl _) (by simp) ?_;(case hd=>rfl);(case hg=>rfl);(case hr=>exact zHH);(case hp=>exact (Reps.none _ _));intro v388 w40 ho41 hb hg_ hnew_;clear hg_ hnew_;(first|rw [←Ny387.1] at ho41|(simp only [Int.reduceToNat] at ho41;rw [←Ny387.1] at ho41));replace HO_8:=zM (Kd.N_elder' (by refine zrN ?_;exact HO_8.1) (Kd.R_base ho41) hb);have HO389:=zM (Kd.R_lower (Kd.R_new' (Kd.R_newM (M:=fun k_=>(w.heap.size≤k_)) ho41 (keep_size (w:=w) (g:=g) (row:=none) zB8) (fun k_ h_=>h_)) (Kd.R_lt (zR HO_7.1))) (keep_size (w:=w) (g:=g) (row:=none) zB8));replace HO_7:=zM (Kd.R_elder' (zR HO_7.1) (Kd.R_base ho41) hb);replace HK:=zM (KeepBut.trans zB8 (KeepBut.of_below hb g none) (.inl rfl));replace HB:=zM (below_step zB7 hb);replace HI0:=zM (IsS106.below zB6 hb);clear hb ho41))
    go_loopg [11,12] k1 (fun kq v11 v12 w'=>∃(x11_2:List Int) (x12_2:Int) (x1001_2:Int) (x1002_2:Int),v12= .int .i64 x12_2∧Aside0 (spec_l18DrawRun.l1 kq a1 t353 x8_1 x11_2 x12_2 s0_0 x1001_2 x1002_2=some (r1,r2,r3,r4,r5))∧Aside0 (kq≤k1)∧Aside0 (Kd.R (Kd.int .i64) 3 w' w.heap.size (fun k_=>(w.heap.size≤k_)∧some k_≠(v11:Value).ownBlock) v354 t353)∧Aside0 (Kd.N k53 53 w' w.heap.size (fun k_=>(w.heap.size≤k_)∧some k_≠(v354:Value).ownBlock∧some k_≠(v11:Value).ownBlock∧k_≠g) u8 x8_1)∧Aside0 (Kd.R (Kd.int .i64) 3 w' w.heap.size (fun k_=>(w.heap.size≤k_)∧some k_≠(v354:Value).ownBlock) v11 x11_2)∧Aside0 (IsS106 w0 w' g s0_0 x1001_2 x1002_2)∧Aside0 (KeepBut w w' g none)∧Aside0 (Below w0.heap.size w0 w'))
    case atStart=>exact ⟨(y387),(0),(t362),(t363),zJJ,H',⟨Nat.le_refl _⟩,⟨zR HO_7.1⟩,⟨by refine zrN ?_;exact Kd.N_mono HO_8.1 (fun _ hk=>⟨hk.1.1,⟨hk.1.2.1,⟨hk.2,hk.1.2.2⟩⟩⟩)⟩,⟨by refine zrR ?_;exact Kd.R_mono HO389.1 (fun _ hk=>⟨hk.1.1,hk.2⟩)⟩,⟨zB6⟩,⟨zB8⟩,⟨zB7⟩⟩
    case round=>
     clear H'
     obtain ⟨x11_2,x12_2,x1001_2,x1002_2,rfl,HA,HK2,HO_7,HO_8,HO_11,HI0,HK,HB⟩:=hrel
     cases gk with
     |zero=>exact absurd HA.1 (by simp [spec_l18DrawRun.l1])
     |succ k2=>
      have H:=HA.1
      clear HA
      simp only [spec_l18DrawRun.l1] at H
      replace H:=zO H
      obtain ⟨⟨t390,t391,t392⟩,A42,H⟩:=H
      try dsimp only at H
      by_cases c43:x12_2<t390
      rotate_left
      ·rw [if_neg c43] at H
       have c43b0:=decide_eq_false c43
       clear c43
       simp only [Option.some.injEq,Prod.mk.injEq] at H
       obtain ⟨rfl,rfl,rfl,rfl,rfl⟩:=H
       go_wp2_with (first|((with_reducible refine zG Try.func90 39 #[.pointer (some ⟨g,0,none⟩),.int .i64 a1] ?_);(with_reducible refine (spec_l1Below.calls g s0_0 x1001_2 x1002_2 a1 t390 t391 t392 w0 _ ?side1 ?side2 A42.1).mono ?_);(case side1=>exact zB6);(case side2=>exact zB7);rintro e w50 ⟨rfl,hi,hb,hk⟩;refine ⟨_,rfl,?_⟩;replace HO_7:=zM (Kd.R_mono (Kd.R_keep (IsS106.apart (show IsS106 w0 _ g s0_0 x1001_2 x1002_2 from zB6) (zR HO_7.1) (by decide)) hk (fun _ h=>h.2)) (fun _ h=>h.1));replace HO_8:=zM (Kd.N_mono (Kd.N_keep (Kd.N_mono (ok:=fun k_=>(((w.heap.size≤k_))∧(some k_≠(v354:Value).ownBlock∧(some k_≠(u11:Value).ownBlock∧k_≠g)))) (by refine zrN ?_;exact HO_8.1) (fun k_ hk_=>(⟨hk_,hk_.2.2.2⟩:_∧k_≠g))) hk (fun _ h=>h.2)) (fun _ h=>h.1));replace HO_11:=zM (Kd.R_mono (Kd.R_keep (IsS106.apart (show IsS106 w0 _ g s0_0 x1001_2 x1002_2 from zB6) (zR HO_11.1) (by decide)) hk (fun _ h=>h.2)) (fun _ h=>h.1));replace HK:=zM (KeepBut.trans zB8 hk (.inl rfl));replace HB:=zM hb;replace HI0:=zM hi;clear hb hk hi))
       go_ret3
       exact ⟨_,_,_,zE,zR HO_7.1,by refine zrN ?_;exact Kd.N_mono HO_8.1 (fun _ hk=>⟨hk.1,⟨hk.2.1,hk.2.2.1⟩⟩),zR HO_11.1,zB6,zB7,zB8⟩
      rw [if_pos c43] at H
      have c43b0:=decide_eq_true c43
      clear c43
      replace H:=zO H
      obtain ⟨⟨t393,t394,t395⟩,A44,H⟩:=H
      try dsimp only at H
      replace H:=zIn H
      obtain ⟨LMc45,H⟩:=H
      generalize hy396:((x11_2++[t393]):List Int)=y396 at H
      have Ny396:=zM hy396.symm
      clear hy396
      have H':=zM H
      clear H
      go_wp2_with (first|((with_reducible refine zG Try.func90 39 #[.pointer (some ⟨g,0,none⟩),.int .i64 a1] ?_);(with_reducible refine (spec_l1Below.calls g s0_0 x1001_2 x1002_2 a1 t390 t391 t392 w0 _ ?side1 ?side2 A42.1).mono ?_);(case side1=>exact zB6);(case side2=>exact zB7);rintro e w46 ⟨rfl,hi,hb,hk⟩;refine ⟨_,rfl,?_⟩;replace HO_7:=zM (Kd.R_mono (Kd.R_keep (IsS106.apart (show IsS106 w0 _ g s0_0 x1001_2 x1002_2 from zB6) (zR HO_7.1) (by decide)) hk (fun _ h=>h.2)) (fun _ h=>h.1));replace HO_8:=zM (Kd.N_mono (Kd.N_keep (Kd.N_mono (ok:=fun k_=>(((w.heap.size≤k_))∧(some k_≠(v354:Value).ownBlock∧(some k_≠(u11:Value).ownBlock∧k_≠g)))) (by refine zrN ?_;exact HO_8.1) (fun k_ hk_=>(⟨hk_,hk_.2.2.2⟩:_∧k_≠g))) hk (fun _ h=>h.2)) (fun _ h=>h.1));replace HO_11:=zM (Kd.R_mono (Kd.R_keep (IsS106.apart (show IsS106 w0 _ g s0_0 x1001_2 x1002_2 from zB6) (zR HO_11.1) (by decide)) hk (fun _ h=>h.2)) (fun _ h=>h.1));replace HK:=zM (KeepBut.trans zB8 hk (.inl rfl));replace HB:=zM hb;replace HI0:=zM hi;clear hb hk hi;obtain ⟨Ao47,co47,eo47⟩:=Kd.N_slice HO_8.1;subst eo47)|((with_reducible refine zG Try.func90 47 #[.pointer (some ⟨g,0,none⟩),.int .i64 (x8_1.length:Int)] ?_);(with_reducible refine (spec_l1Below.calls g s0_0 t391 t392 (x8_1.length:Int) t393 t394 t395 w0 _ ?side1 ?side2 A44.1).mono ?_);(case side1=>exact zB6);(case side2=>exact zB7);rintro e w48 ⟨rfl,hi,hb,hk⟩;refine ⟨_,rfl,?_⟩;replace HO_7:=zM (Kd.R_mono (Kd.R_keep (IsS106.apart (show IsS106 w0 _ g s0_0 t391 t392 from zB6) (zR HO_7.1) (by decide)) hk (fun _ h=>h.2)) (fun _ h=>h.1));replace HO_8:=zM (Kd.N_mono (Kd.N_keep (Kd.N_mono (ok:=fun k_=>(((w.heap.size≤k_))∧(some k_≠(v354:Value).ownBlock∧(some k_≠(u11:Value).ownBlock∧k_≠g)))) (by refine zrN ?_;exact HO_8.1) (fun k_ hk_=>(⟨hk_,hk_.2.2.2⟩:_∧k_≠g))) hk (fun _ h=>h.2)) (fun _ h=>h.1));replace HO_11:=zM (Kd.R_mono (Kd.R_keep (IsS106.apart (show IsS106 w0 _ g s0_0 t391 t392 from zB6) (zR HO_11.1) (by decide)) hk (fun _ h=>h.2)) (fun _ h=>h.1));replace HK:=zM (KeepBut.trans zB8 hk (.inl rfl));replace HB:=zM hb;replace HI0:=zM hi;clear hb hk hi)|((with_reducible refine gate_builtin (b:= .append) (xs:=#[.tmp 43,.tmp 48]) rfl ?_);at_builtin;refine Kd.R_append (Kd.int .i64) w.heap.size rfl (.tmp 43) (.tmp 48) 24 3 (.int .i64 0) 8 rfl Try.underlying24 info3 rfl (by decide) (by omega) u11 x11_2 t393 [.int .i64 t393] (fun k_=>(w.heap.size≤k_)∧some k_≠(v354:Value).ownBlock) (fun _=>False) rfl rfl ?aP (fun _ hk=>hk.elim) ?aF ?aO (Below.refl _ _) ?aS ?aL ?_;(case aP=>exact rfl);(case aF=>exact (fun k_ hk=>⟨(Nat.le_trans (keep_size (w:=w) (g:=g) (row:=none) zB8) hk),Kd.fresh' (Kd.R_lt (zR HO_7.1)) k_ hk⟩));(case aO=>exact (zR HO_11.1));(case aS=>exact (keep_size (w:=w) (g:=g) (row:=none) zB8));(case aL=>have:=LMc45.out;omega);intro v397 w49 ho hb hg hat;rw [←Ny396.1] at ho;replace HO_7:=zM (Kd.R_after (ok:=(fun k_=>(w.heap.size≤k_))) (zR HO_7.1) hg hat);replace HO_8:=zM (Kd.N_afterv (ok:=(fun k_=>(w.heap.size≤k_)∧some k_≠(v354:Value).ownBlock∧k_≠g)) (by refine zrN ?_;exact Kd.N_mono HO_8.1 (fun _ hk=>⟨⟨hk.1,⟨hk.2.1,hk.2.2.2⟩⟩,hk.2.2.1⟩)) hg hat);replace HB:=zM (below_weaken zB7 HL.1 hb);replace HI0:=zM (IsS106.grown (show IsS106 w0 _ g s0_0 t394 t395 from zB6) hg (IsS106.own_ne HI0.1 HO_11.1 (by decide)));replace HK:=zM (KeepBut.trans zB8 (KeepBut.of_grown hg g) (Kd.R_base2 HO_11.1));have HO398:=zM ho;clear HO_11;clear ho hb hg hat))
      go_roundg k2
      case measure=>have:=HK1.1;have:=HK2.1;omega
      case rel=>exact ⟨(y396),(wrap64 (x12_2+1)),(t394),(t395),zJJ,H',⟨by have:=HK1.1;have:=HK2.1;omega⟩,⟨zR HO_7.1⟩,⟨by refine zrN ?_;exact Kd.N_mono HO_8.1 (fun _ hk=>⟨hk.1.1,⟨hk.1.2.1,⟨hk.2,hk.1.2.2⟩⟩⟩)⟩,⟨zR HO398.1⟩,⟨zB6⟩,⟨zB8⟩,⟨zB7⟩⟩
   rw [if_pos c8] at H
   have c8b0:=decide_eq_true c8
   clear c8
   replace H:=zO H
   obtain ⟨⟨t364,t367,t368,t369,t370⟩,A9,H⟩:=H
   try dsimp only at H
   replace H:=zO H
   obtain ⟨t372,A10,H⟩:=H
   by_cases c11:t372=true
   ·subst c11
    rw [if_pos rfl] at H
    replace H:=zIn H
    obtain ⟨LMc12,H⟩:=H
    generalize hy373:((x8_1++[(⟨t364,t367,t368⟩:S53)]):List (S53))=y373 at H
    have Ny373:=zM hy373.symm
    clear hy373
    have H':=zM H
    clear H
    go_wp2_with (first|((with_reducible refine zG Try.func90 18 #[.pointer (some ⟨g,0,none⟩),.int .i64 3] ?_);(with_reducible refine (spec_l1Below.calls g s0_0 x1001_1 x1002_1 3 t361 t362 t363 w0 _ ?side1 ?side2 A7.1).mono ?_);(case side1=>exact zB6);(case side2=>exact zB7);rintro e w13 ⟨rfl,hi,hb,hk⟩;refine ⟨_,rfl,?_⟩;replace HO_7:=zM (Kd.R_mono (Kd.R_keep (IsS106.apart (show IsS106 w0 _ g s0_0 x1001_1 x1002_1 from zB6) (zR HO_7.1) (by decide)) hk (fun _ h=>h.2)) (fun _ h=>h.1));replace HO_8:=zM (Kd.N_mono (Kd.N_keep (Kd.N_mono (ok:=fun k_=>(((w.heap.size≤k_))∧(some k_≠(v354:Value).ownBlock∧k_≠g))) (by refine zrN ?_;exact HO_8.1) (fun k_ hk_=>(⟨hk_,hk_.2.2⟩:_∧k_≠g))) hk (fun _ h=>h.2)) (fun _ h=>h.1));replace HK:=zM (KeepBut.trans zB8 hk (.inl rfl));replace HB:=zM hb;replace HI0:=zM hi;clear hb hk hi)|((with_reducible refine zG Try.func84 24 #[.pointer (some ⟨g,0,none⟩)] ?_);(with_reducible refine (spec_l9DrawHart.calls k1 g s0_0 t362 t363 t364 t367 t368 t369 t370 w0 _ ?side1 ?side2 A9.1).mono ?_);(case side1=>exact zB6);(case side2=>exact zB7);rintro e w14 ⟨v365,rfl,ho0,hi,hb,hk⟩;refine ⟨_,rfl,?_⟩;replace HO_8:=zM (Kd.N_mono (Kd.N_told (Kd.N_oldK (Kd.N_mono (ok:=fun k_=>(((w.heap.size≤k_))∧(some k_≠(v354:Value).ownBlock∧k_≠g))) (by refine zrN ?_;exact HO_8.1) (fun k_ hk_=>(⟨hk_,hk_.2.2⟩:_∧k_≠g))) hk) (Kd.Q_base ho0)) (fun _ h_=>h_.1));have HO366:=zM (Kd.Q_lower (Kd.Q_new' (Kd.Q_newM (M:=fun k_=>(w.heap.size≤k_)) ho0 (keep_size (w:=w) (g:=g) (row:=none) zB8) (fun k_ h_=>h_)) (Kd.R_lt (zR HO_7.1))) (keep_size (w:=w) (g:=g) (row:=none) zB8));replace HO_7:=zM (Kd.R_mono (Kd.R_told (Kd.R_oldK (IsS106.apart (show IsS106 w0 _ g s0_0 t362 t363 from zB6) (zR HO_7.1) (by decide)) hk) (Kd.Q_base ho0)) (fun _ h_=>h_.1));replace HK:=zM (KeepBut.trans zB8 hk (.inl rfl));replace HB:=zM hb;replace HI0:=zM hi;clear hb hk hi ho0)|((with_reducible refine zBx 10 53 #[.slice none 0 0,.int .i64 0,.int .i64 0] ?_);intro gb371 hg w15 hbox hb;replace HO_7:=zM (Kd.R_below (zR HO_7.1) hb);replace HO_8:=zM (Kd.N_below (Kd.N_elderB (by refine zrN ?_;exact HO_8.1) gb371 (Nat.le_of_eq hg.symm)) hb);replace HO366:=zM (Kd.Q_below (zQ HO366.1) hb);replace HB:=zM (below_step zB7 hb);have BK371:=zM hbox;have GW371:=zM ((by rw [hg];exact (keep_size (w:=w) (g:=g) (row:=none) zB8):w.heap.size≤gb371));have GE371:=zM ((Nat.le_trans HW0.1 (by rw [hg];exact (keep_size (w:=w) (g:=g) (row:=none) zB8):w.heap.size≤gb371):w0.heap.size≤gb371));replace HK:=zM (KeepBut.trans zB8 (KeepBut.of_below hb g none) (.inl rfl));have NB0_371:=zM ((by rw [hg];exact Nat.ne_of_lt (IsS106.lt (show IsS106 w0 _ g s0_0 t369 t370 from zB6)):g≠gb371));have NB371_0:=zM ((by rw [hg];exact Nat.ne_of_gt (IsS106.lt (show IsS106 w0 _ g s0_0 t369 t370 from zB6)):gb371≠g));replace HI0:=zM (IsS106.below zB6 hb);clear hb hbox hg;obtain ⟨Ao16,co16,eo16,_⟩:=Kd.Q_slice HO366.1;subst eo16;have hnb17:=NB371_0.1;have hnc17:=NB0_371.1;have hcz18:=zc_3 (w:=w15) BK371.1)|((with_reducible refine zG Try.func94 26 #[.agg #[.slice Ao16 t364.length co16,.int .i64 t367,.int .i64 t368]] ?_);(with_reducible refine (spec_HartOk.calls k1 _ _ t364 t367 t368 true _ ?side1 ?side2 A10.1).mono ?_);(case side1=>refine (Kd.Q_reads' (e:=3) (base:=w.heap.size) (ok:=fun k_=>(((w.heap.size≤k_)∧True)∧some k_≠(v354:Value).ownBlock)) (n:=t364.length) (c:=co16) ?_).2.2;exact (by refine zrQ ?_;exact (Kd.Q_mono (zfQ (zfQ (zfQ (Kd.Q_types HO366.1 BK371.1 (by decide))))) (fun _ h_=>h_.1))));(case side2=>exact (Kd.Q_reads' HO366.1).2.1);rintro e w19 ⟨rfl,hb⟩;refine ⟨_,rfl,?_⟩;replace HO_7:=zM (Kd.R_below (by refine zrR ?_;exact (Kd.R_mono (zfR (zfR (zfR (Kd.R_types HO_7.1 BK371.1 (by decide))))) (fun _ h_=>h_.1))) hb);replace HO_8:=zM (Kd.N_below (by refine zrN ?_;exact (Kd.N_mono (zfN (zfN (zfN (Kd.N_mono HO_8.1 (fun k_ hk=>(⟨hk,hk.2⟩:_∧k_≠gb371)))))) (fun _ h_=>h_.1))) hb);replace HO366:=zM (Kd.Q_below (by refine zrQ ?_;exact (Kd.Q_mono (zfQ (zfQ (zfQ (Kd.Q_types HO366.1 BK371.1 (by decide))))) (fun _ h_=>h_.1))) hb);replace BK371:=zM (blk_below (g:=gb371) (o:= .cells #[.slice Ao16 t364.length co16,.int .i64 t367,.int .i64 t368] 53 (0,0)) (by exact zp3 (zK BK371.1)) hb);replace HK:=zM (KeepBut.trans zB8 (KeepBut.of_below hb g none) (.inl rfl));replace HB:=zM (below_step zB7 hb);replace HI0:=zM (IsS106.below (show IsS106 w0 (((w15.setCell ⟨gb371,0,none⟩ (.slice Ao16 t364.length co16)).setCell ⟨gb371,1,none⟩ (.int .i64 t367)).setCell ⟨gb371,2,none⟩ (.int .i64 t368)) g s0_0 t369 t370 from zB39) hb);clear hb;have hcz20:=zc_3 (w:=w19) BK371.1)|((with_reducible refine gate_builtin (b:= .append) (xs:=#[.tmp 31,.tmp 33]) rfl ?_);at_builtin;refine Kd.N_append k53 w.heap.size rfl (.tmp 31) (.tmp 33) 25 53 (.agg #[(.slice none 0 0),(.int .i64 0),(.int .i64 0)]) 40 rfl Try.underlying25 info53 rfl (by decide) (by omega) u8 x8_1 (⟨t364,t367,t368⟩:S53) [.slice Ao16 t364.length co16,.int .i64 t367,.int .i64 t368] (fun k_=>(w.heap.size≤k_)∧some k_≠(v354:Value).ownBlock∧k_≠gb371∧k_≠g) (fun k_=>((fun k_=>(w.heap.size≤k_)∧some k_≠(v354:Value).ownBlock∧k_≠gb371∧k_≠g)) k_∧some k_≠(u8:Value).ownBlock) rfl rfl ?aP (fun _ hk=>hk) ?aF ?aO (Below.refl _ _) ?aS ?aL ?_;(case aP=>exact (k53_mkF _ _ (⟨t364,t367,t368⟩:S53) (Kd.Q_reads' (Kd.Q_mono (ok':=(fun k_=>((fun k_=>(w.heap.size≤k_)∧some k_≠(v354:Value).ownBlock∧k_≠gb371∧k_≠g)) k_∧some k_≠(u8:Value).ownBlock)) (IsS106.apartQ HI0.1 (Kd.Q_types (Kd.Q_apart' (HO366.1) (Kd.N_typed HO_8.1) (by decide)) BK371.1 (by decide)) (by decide)) (fun k_ hk=>⟨⟨hk.1.1.1.1.1,⟨hk.1.1.1.2,⟨hk.1.2,hk.2⟩⟩⟩,hk.1.1.2⟩))).2.1 (Kd.Q_F (Kd.Q_mono (ok':=(fun k_=>((fun k_=>(w.heap.size≤k_)∧some k_≠(v354:Value).ownBlock∧k_≠gb371∧k_≠g)) k_∧some k_≠(u8:Value).ownBlock)) (IsS106.apartQ HI0.1 (Kd.Q_types (Kd.Q_apart' (HO366.1) (Kd.N_typed HO_8.1) (by decide)) BK371.1 (by decide)) (by decide)) (fun k_ hk=>⟨⟨hk.1.1.1.1.1,⟨hk.1.1.1.2,⟨hk.1.2,hk.2⟩⟩⟩,hk.1.1.2⟩)))));(case aF=>exact (fun k_ hk=>⟨(Nat.le_trans (keep_size (w:=w) (g:=g) (row:=none) zB8) hk),Kd.fresh' (Kd.R_lt (zR HO_7.1)) k_ hk,Kd.freshB (g:=gb371) (o:= .cells #[.slice Ao16 t364.length co16,.int .i64 t367,.int .i64 t368] 53 (0,0)) (zK BK371.1) k_ hk,IsS106.fresh zB39 k_ hk⟩));(case aO=>exact (by refine zrN ?_;exact Kd.N_mono HO_8.1 (fun _ hk=>⟨hk.1.1.1,⟨hk.1.1.2.1,⟨hk.2,hk.1.1.2.2⟩⟩⟩)));(case aS=>exact (keep_size (w:=w) (g:=g) (row:=none) zB8));(case aL=>have:=LMc12.out;omega);intro v374 w21 ho hb hg hat;rw [←Ny373.1] at ho;replace HO_7:=zM (Kd.R_over' (zR HO_7.1) (Kd.N_typed (by refine zrN ?_;exact HO_8.1)) (by decide) hg);replace BK371:=zM (zg BK371.1 hg (Kd.N_away HO_8.1 (fun _ hk=>hk.2)));replace HB:=zM (below_weaken zB7 HL.1 hb);replace HI0:=zM (IsS106.grown (show IsS106 w0 _ g s0_0 t369 t370 from zB39) hg (IsS106.own_neN HI0.1 HO_8.1 (by decide)));replace HK:=zM (KeepBut.trans zB8 (KeepBut.of_grown hg g) (Kd.N_base2 HO_8.1));have HO375:=zM ho;clear HO_8 HO366;clear ho hb hg hat))
    go_roundg k1
    case measure=>have:=HK1.1;omega
    case rel=>exact ⟨(y373),(wrap64 (x9_1+1)),(t369),(t370),zJJ,H',⟨by have:=HK1.1;omega⟩,⟨by refine zrR ?_;exact Kd.R_mono HO_7.1 (fun _ hk=>hk.1)⟩,⟨by refine zrN ?_;exact Kd.N_mono HO375.1 (fun _ hk=>⟨hk.1,⟨hk.2.1,hk.2.2.2⟩⟩)⟩,⟨zB39⟩,⟨zB8⟩,⟨zB7⟩⟩
   replace c11:=Bool.eq_false_iff.mpr c11
   subst c11
   rw [if_neg zF] at H
   replace H:=zO H
   obtain ⟨⟨t376,t377,t378⟩,A22,H⟩:=H
   try dsimp only at H
   replace H:=zO H
   obtain ⟨⟨t379,t382,t383⟩,A23,H⟩:=H
   try dsimp only at H
   replace H:=zIn H
   obtain ⟨LMc24,H⟩:=H
   generalize hy384:((x8_1++[(⟨t379,t382,t383⟩:S53)]):List (S53))=y384 at H
   have Ny384:=zM hy384.symm
   clear hy384
   have H':=zM H
   clear H
   go_wp2_with (first|((with_reducible refine zG Try.func90 18 #[.pointer (some ⟨g,0,none⟩),.int .i64 3] ?_);(with_reducible refine (spec_l1Below.calls g s0_0 x1001_1 x1002_1 3 t361 t362 t363 w0 _ ?side1 ?side2 A7.1).mono ?_);(case side1=>exact zB6);(case side2=>exact zB7);rintro e w25 ⟨rfl,hi,hb,hk⟩;refine ⟨_,rfl,?_⟩;replace HO_7:=zM (Kd.R_mono (Kd.R_keep (IsS106.apart (show IsS106 w0 _ g s0_0 x1001_1 x1002_1 from zB6) (zR HO_7.1) (by decide)) hk (fun _ h=>h.2)) (fun _ h=>h.1));replace HO_8:=zM (Kd.N_mono (Kd.N_keep (Kd.N_mono (ok:=fun k_=>(((w.heap.size≤k_))∧(some k_≠(v354:Value).ownBlock∧k_≠g))) (by refine zrN ?_;exact HO_8.1) (fun k_ hk_=>(⟨hk_,hk_.2.2⟩:_∧k_≠g))) hk (fun _ h=>h.2)) (fun _ h=>h.1));replace HK:=zM (KeepBut.trans zB8 hk (.inl rfl));replace HB:=zM hb;replace HI0:=zM hi;clear hb hk hi)|((with_reducible refine zG Try.func84 24 #[.pointer (some ⟨g,0,none⟩)] ?_);(with_reducible refine (spec_l9DrawHart.calls k1 g s0_0 t362 t363 t364 t367 t368 t369 t370 w0 _ ?side1 ?side2 A9.1).mono ?_);(case side1=>exact zB6);(case side2=>exact zB7);rintro e w26 ⟨v365,rfl,ho0,hi,hb,hk⟩;refine ⟨_,rfl,?_⟩;replace HO_8:=zM (Kd.N_mono (Kd.N_told (Kd.N_oldK (Kd.N_mono (ok:=fun k_=>(((w.heap.size≤k_))∧(some k_≠(v354:Value).ownBlock∧k_≠g))) (by refine zrN ?_;exact HO_8.1) (fun k_ hk_=>(⟨hk_,hk_.2.2⟩:_∧k_≠g))) hk) (Kd.Q_base ho0)) (fun _ h_=>h_.1));have HO366:=zM (Kd.Q_lower (Kd.Q_new' (Kd.Q_newM (M:=fun k_=>(w.heap.size≤k_)) ho0 (keep_size (w:=w) (g:=g) (row:=none) zB8) (fun k_ h_=>h_)) (Kd.R_lt (zR HO_7.1))) (keep_size (w:=w) (g:=g) (row:=none) zB8));replace HO_7:=zM (Kd.R_mono (Kd.R_told (Kd.R_oldK (IsS106.apart (show IsS106 w0 _ g s0_0 t362 t363 from zB6) (zR HO_7.1) (by decide)) hk) (Kd.Q_base ho0)) (fun _ h_=>h_.1));replace HK:=zM (KeepBut.trans zB8 hk (.inl rfl));replace HB:=zM hb;replace HI0:=zM hi;clear hb hk hi ho0)|((with_reducible refine zBx 10 53 #[.slice none 0 0,.int .i64 0,.int .i64 0] ?_);intro gb371 hg w27 hbox hb;replace HO_7:=zM (Kd.R_below (zR HO_7.1) hb);replace HO_8:=zM (Kd.N_below (Kd.N_elderB (by refine zrN ?_;exact HO_8.1) gb371 (Nat.le_of_eq hg.symm)) hb);replace HO366:=zM (Kd.Q_below (zQ HO366.1) hb);replace HB:=zM (below_step zB7 hb);have BK371:=zM hbox;have GW371:=zM ((by rw [hg];exact (keep_size (w:=w) (g:=g) (row:=none) zB8):w.heap.size≤gb371));have GE371:=zM ((Nat.le_trans HW0.1 (by rw [hg];exact (keep_size (w:=w) (g:=g) (row:=none) zB8):w.heap.size≤gb371):w0.heap.size≤gb371));replace HK:=zM (KeepBut.trans zB8 (KeepBut.of_below hb g none) (.inl rfl));have NB0_371:=zM ((by rw [hg];exact Nat.ne_of_lt (IsS106.lt (show IsS106 w0 _ g s0_0 t369 t370 from zB6)):g≠gb371));have NB371_0:=zM ((by rw [hg];exact Nat.ne_of_gt (IsS106.lt (show IsS106 w0 _ g s0_0 t369 t370 from zB6)):gb371≠g));replace HI0:=zM (IsS106.below zB6 hb);clear hb hbox hg;obtain ⟨Ao28,co28,eo28,_⟩:=Kd.Q_slice HO366.1;subst eo28;have hnb29:=NB371_0.1;have hnc29:=NB0_371.1;have hcz30:=zc_3 (w:=w27) BK371.1)|((with_reducible refine zG Try.func94 26 #[.agg #[.slice Ao28 t364.length co28,.int .i64 t367,.int .i64 t368]] ?_);(with_reducible refine (spec_HartOk.calls k1 _ _ t364 t367 t368 false _ ?side1 ?side2 A10.1).mono ?_);(case side1=>refine (Kd.Q_reads' (e:=3) (base:=w.heap.size) (ok:=fun k_=>(((w.heap.size≤k_)∧True)∧some k_≠(v354:Value).ownBlock)) (n:=t364.length) (c:=co28) ?_).2.2;exact (by refine zrQ ?_;exact (Kd.Q_mono (zfQ (zfQ (zfQ (Kd.Q_types HO366.1 BK371.1 (by decide))))) (fun _ h_=>h_.1))));(case side2=>exact (Kd.Q_reads' HO366.1).2.1);rintro e w31 ⟨rfl,hb⟩;refine ⟨_,rfl,?_⟩;replace HO_7:=zM (Kd.R_below (by refine zrR ?_;exact (Kd.R_mono (zfR (zfR (zfR (Kd.R_types HO_7.1 BK371.1 (by decide))))) (fun _ h_=>h_.1))) hb);replace HO_8:=zM (Kd.N_below (by refine zrN ?_;exact (Kd.N_mono (zfN (zfN (zfN (Kd.N_mono HO_8.1 (fun k_ hk=>(⟨hk,hk.2⟩:_∧k_≠gb371)))))) (fun _ h_=>h_.1))) hb);replace HO366:=zM (Kd.Q_below (by refine zrQ ?_;exact (Kd.Q_mono (zfQ (zfQ (zfQ (Kd.Q_types HO366.1 BK371.1 (by decide))))) (fun _ h_=>h_.1))) hb);replace BK371:=zM (blk_below (g:=gb371) (o:= .cells #[.slice Ao28 t364.length co28,.int .i64 t367,.int .i64 t368] 53 (0,0)) (by exact zp3 (zK BK371.1)) hb);replace HK:=zM (KeepBut.trans zB8 (KeepBut.of_below hb g none) (.inl rfl));replace HB:=zM (below_step zB7 hb);replace HI0:=zM (IsS106.below (show IsS106 w0 (((w27.setCell ⟨gb371,0,none⟩ (.slice Ao28 t364.length co28)).setCell ⟨gb371,1,none⟩ (.int .i64 t367)).setCell ⟨gb371,2,none⟩ (.int .i64 t368)) g s0_0 t369 t370 from zB39) hb);clear hb)|((with_reducible refine zG Try.func90 29 #[.pointer (some ⟨g,0,none⟩),.int .i64 20] ?_);(with_reducible refine (spec_l1Below.calls g s0_0 t369 t370 20 t376 t377 t378 w0 _ ?side1 ?side2 A22.1).mono ?_);(case side1=>exact zB39);(case side2=>exact zB7);rintro e w32 ⟨rfl,hi,hb,hk⟩;refine ⟨_,rfl,?_⟩;replace HO_7:=zM (Kd.R_mono (Kd.R_keep (IsS106.apart (show IsS106 w0 _ g s0_0 t369 t370 from zB39) (zR HO_7.1) (by decide)) hk (fun _ h=>h.2)) (fun _ h=>h.1));replace HO_8:=zM (Kd.N_mono (Kd.N_keep (Kd.N_mono (ok:=fun k_=>(((((w.heap.size≤k_))∧(some k_≠(v354:Value).ownBlock∧k_≠g))∧some k_≠(.slice Ao28 t364.length co28:Value).ownBlock)∧k_≠gb371)) (by refine zrN ?_;exact HO_8.1) (fun k_ hk_=>(⟨hk_,hk_.1.1.2.2⟩:_∧k_≠g))) hk (fun _ h=>h.2)) (fun _ h=>h.1));replace HO366:=zM (Kd.Q_mono (Kd.Q_keep (IsS106.apartQ (show IsS106 w0 _ g s0_0 t369 t370 from zB39) (zQ HO366.1) (by decide)) hk (fun _ h=>h.2)) (fun _ h=>h.1));replace BK371:=zM (zh hk BK371.1 NB371_0.1);replace HK:=zM (KeepBut.trans zB8 hk (.inl rfl));replace HB:=zM hb;replace HI0:=zM hi;clear hb hk hi)|((with_reducible refine zG Try.func92 30 #[.int .i64 t376] ?_);(with_reducible refine (spec_HartNew.calls t376 t379 t382 t383 _ A23.1).mono ?_);rintro e w33 ⟨v380,rfl,ho0,hb⟩;refine ⟨_,rfl,?_⟩;replace HO_8:=zM (Kd.N_elder' (by refine zrN ?_;exact HO_8.1) (Kd.R_base ho0) hb);have HO381:=zM (Kd.R_lower (Kd.R_new' (Kd.R_new' (Kd.R_newM (M:=fun k_=>(w.heap.size≤k_)) ho0 (keep_size (w:=w) (g:=g) (row:=none) zB8) (fun k_ h_=>h_)) (Kd.R_lt (zR HO_7.1))) (Kd.Q_lt (zQ HO366.1))) (keep_size (w:=w) (g:=g) (row:=none) zB8));replace HO_7:=zM (Kd.R_elder' (zR HO_7.1) (Kd.R_base ho0) hb);replace HO366:=zM (Kd.Q_elder' (zQ HO366.1) (Kd.R_base ho0) hb);replace BK371:=zM (zb BK371.1 hb);replace HK:=zM (KeepBut.trans zB8 (KeepBut.of_below hb g none) (.inl rfl));replace HB:=zM (below_step zB7 hb);replace HI0:=zM (IsS106.below zB39 hb);clear hb ho0;obtain ⟨Ao34,co34,eo34⟩:=Kd.R_slice HO381.1;subst eo34;have hcz35:=zc_3 (w:=w33) BK371.1)|((with_reducible refine gate_store (t:=53) (p:=10) rfl ?_);refine store_event (t:=53) (p:=10) (v:=?vo_w36) (w1:=(((w33.setCell ⟨gb371,0,none⟩ (.slice Ao34 t379.length co34)).setCell ⟨gb371,1,none⟩ (.int .i64 t382)).setCell ⟨gb371,2,none⟩ (.int .i64 t383))) ?hg ?ho ?hn ?hr ?_;(case ho=>rfl);(case hg=>rfl);(case hn=>rfl);(case hr=>exact zHH);intro w36 hw;have n0_:Aside0 (Kd.R (Kd.int .i64) 3 w36 w.heap.size (fun k_=>(w.heap.size≤k_)∧some k_≠(.slice Ao28 t364.length co28:Value).ownBlock∧some k_≠(.slice Ao34 t379.length co34:Value).ownBlock) v354 t353):=⟨(by rw [hw];exact (by refine zrR ?_;exact Kd.R_mono (zfR (zfR (zfR (Kd.R_types HO_7.1 BK371.1 (by decide))))) (fun _ hk=>⟨hk.1.1.1,⟨hk.1.1.2,hk.1.2⟩⟩)))⟩;have n1_:Aside0 (Kd.N k53 53 w36 w.heap.size (fun k_=>(w.heap.size≤k_)∧some k_≠(v354:Value).ownBlock∧some k_≠(.slice Ao28 t364.length co28:Value).ownBlock∧some k_≠(.slice Ao34 t379.length co34:Value).ownBlock∧k_≠g∧k_≠gb371) u8 x8_1):=⟨(by rw [hw];exact (by refine zrN ?_;exact Kd.N_mono (zfN (zfN (zfN (Kd.N_mono HO_8.1 (fun k_ hk=>(⟨hk,hk.1.2⟩:_∧k_≠gb371)))))) (fun _ hk=>⟨hk.1.1.1.1.1,⟨hk.1.1.1.1.2.1,⟨hk.1.1.1.2,⟨hk.1.2,⟨hk.1.1.1.1.2.2,hk.1.1.2⟩⟩⟩⟩⟩)))⟩;have n2_:Aside0 (Kd.Q (Kd.int .i64) 3 w36 w.heap.size (fun k_=>(w.heap.size≤k_)∧some k_≠(v354:Value).ownBlock∧some k_≠(.slice Ao34 t379.length co34:Value).ownBlock) (.slice Ao28 t364.length co28) t364):=⟨(by rw [hw];exact (by refine zrQ ?_;exact Kd.Q_mono (zfQ (zfQ (zfQ (Kd.Q_types HO366.1 BK371.1 (by decide))))) (fun _ hk=>⟨hk.1.1.1.1,⟨hk.1.1.2,hk.1.2⟩⟩)))⟩;have n3_:Aside0 (Kd.R (Kd.int .i64) 3 w36 w.heap.size (fun k_=>(w.heap.size≤k_)∧some k_≠(v354:Value).ownBlock∧some k_≠(.slice Ao28 t364.length co28:Value).ownBlock) (.slice Ao34 t379.length co34) t379):=⟨(by rw [hw];exact (by refine zrR ?_;exact Kd.R_mono (zfR (zfR (zfR (Kd.R_types HO381.1 BK371.1 (by decide))))) (fun _ hk=>⟨hk.1.1.1.1,⟨hk.1.1.2,hk.1.2⟩⟩)))⟩;have n4_:Aside0 (w36.heap[gb371]? =some (.cells #[.slice Ao34 t379.length co34,.int .i64 t382,.int .i64 t383] 53 (0,0))):=⟨(by rw [hw];exact (by exact zp3 (zK BK371.1)))⟩;have n5_:Aside0 (IsS106 w0 w36 g s0_0 t377 t378):=⟨(by rw [hw];exact zB39)⟩;have n6_:Aside0 (KeepBut w w36 g none):=⟨(by rw [hw];exact zB8)⟩;have n7_:Aside0 (Below w0.heap.size w0 w36):=⟨(by rw [hw];exact zB7)⟩;clear hw;clear HO_7;clear HO_8;clear HO366;clear HO381;clear BK371;clear HI0;clear HK;clear HB;have HO_7:=n0_;have HO_8:=n1_;have HO366:=n2_;have HO381:=n3_;have BK371:=n4_;have HI0:=n5_;have HK:=n6_;have HB:=n7_;clear n0_ n1_ n2_ n3_ n4_ n5_ n6_ n7_;have hcz37:=zc_3 (w:=w36) BK371.1)|((with_reducible refine gate_builtin (b:= .append) (xs:=#[.tmp 31,.tmp 33]) rfl ?_);at_builtin;refine Kd.N_append k53 w.heap.size rfl (.tmp 31) (.tmp 33) 25 53 (.agg #[(.slice none 0 0),(.int .i64 0),(.int .i64 0)]) 40 rfl Try.underlying25 info53 rfl (by decide) (by omega) u8 x8_1 (⟨t379,t382,t383⟩:S53) [.slice Ao34 t379.length co34,.int .i64 t382,.int .i64 t383] (fun k_=>(w.heap.size≤k_)∧some k_≠(v354:Value).ownBlock∧some k_≠(.slice Ao28 t364.length co28:Value).ownBlock∧k_≠gb371∧k_≠g) (fun k_=>((fun k_=>(w.heap.size≤k_)∧some k_≠(v354:Value).ownBlock∧some k_≠(.slice Ao28 t364.length co28:Value).ownBlock∧k_≠gb371∧k_≠g)) k_∧some k_≠(u8:Value).ownBlock) rfl rfl ?aP (fun _ hk=>hk) ?aF ?aO (Below.refl _ _) ?aS ?aL ?_;(case aP=>exact (k53_mkF _ _ (⟨t379,t382,t383⟩:S53) (Kd.R_reads' (Kd.R_mono (ok':=(fun k_=>((fun k_=>(w.heap.size≤k_)∧some k_≠(v354:Value).ownBlock∧some k_≠(.slice Ao28 t364.length co28:Value).ownBlock∧k_≠gb371∧k_≠g)) k_∧some k_≠(u8:Value).ownBlock)) (IsS106.apart HI0.1 (Kd.R_types (Kd.R_apart' (HO381.1) (Kd.N_typed HO_8.1) (by decide)) BK371.1 (by decide)) (by decide)) (fun k_ hk=>⟨⟨hk.1.1.1.1,⟨hk.1.1.1.2.1,⟨hk.1.1.1.2.2,⟨hk.1.2,hk.2⟩⟩⟩⟩,hk.1.1.2⟩))).2.1 (Kd.R_F (Kd.R_mono (ok':=(fun k_=>((fun k_=>(w.heap.size≤k_)∧some k_≠(v354:Value).ownBlock∧some k_≠(.slice Ao28 t364.length co28:Value).ownBlock∧k_≠gb371∧k_≠g)) k_∧some k_≠(u8:Value).ownBlock)) (IsS106.apart HI0.1 (Kd.R_types (Kd.R_apart' (HO381.1) (Kd.N_typed HO_8.1) (by decide)) BK371.1 (by decide)) (by decide)) (fun k_ hk=>⟨⟨hk.1.1.1.1,⟨hk.1.1.1.2.1,⟨hk.1.1.1.2.2,⟨hk.1.2,hk.2⟩⟩⟩⟩,hk.1.1.2⟩)))));(case aF=>exact (fun k_ hk=>⟨(Nat.le_trans (keep_size (w:=w) (g:=g) (row:=none) zB8) hk),Kd.fresh' (Kd.R_lt (zR HO_7.1)) k_ hk,Kd.fresh' (Kd.Q_lt (zQ HO366.1)) k_ hk,Kd.freshB (g:=gb371) (o:= .cells #[.slice Ao34 t379.length co34,.int .i64 t382,.int .i64 t383] 53 (0,0)) (zK BK371.1) k_ hk,IsS106.fresh zB39 k_ hk⟩));(case aO=>exact (by refine zrN ?_;exact Kd.N_mono HO_8.1 (fun _ hk=>⟨hk.1,⟨hk.2.1,⟨hk.2.2.1,⟨hk.2.2.2.2.2,hk.2.2.2.2.1⟩⟩⟩⟩)));(case aS=>exact (keep_size (w:=w) (g:=g) (row:=none) zB8));(case aL=>have:=LMc24.out;omega);intro v385 w38 ho hb hg hat;rw [←Ny384.1] at ho;replace HO_7:=zM (Kd.R_over' (zR HO_7.1) (Kd.N_typed (by refine zrN ?_;exact HO_8.1)) (by decide) hg);replace HO366:=zM (Kd.Q_over' (zQ HO366.1) (Kd.N_typed (by refine zrN ?_;exact HO_8.1)) (by decide) hg);replace BK371:=zM (zg BK371.1 hg (Kd.N_away HO_8.1 (fun _ hk=>hk.2.2.2.2.2)));replace HB:=zM (below_weaken zB7 HL.1 hb);replace HI0:=zM (IsS106.grown (show IsS106 w0 _ g s0_0 t377 t378 from zB39) hg (IsS106.own_neN HI0.1 HO_8.1 (by decide)));replace HK:=zM (KeepBut.trans zB8 (KeepBut.of_grown hg g) (Kd.N_base2 HO_8.1));have HO386:=zM ho;clear HO_8 HO381;clear ho hb hg hat))
   go_roundg k1
   case measure=>have:=HK1.1;omega
   case rel=>exact ⟨(y384),(wrap64 (x9_1+1)),(t377),(t378),zJJ,H',⟨by have:=HK1.1;omega⟩,⟨by refine zrR ?_;exact Kd.R_mono HO_7.1 (fun _ hk=>hk.1)⟩,⟨by refine zrN ?_;exact Kd.N_mono HO386.1 (fun _ hk=>⟨hk.1,⟨hk.2.1,hk.2.2.2.2⟩⟩)⟩,⟨zB39⟩,⟨zB8⟩,⟨zB7⟩⟩

/-! ### spec_DrawRunTo: function 8 -/
def spec_DrawRunTo.f (k:Nat) (l0:List Int):Option (List Int×(List (S53))×List Int×List Int×List Int):=(spec_l1New.f k l0).bind fun bt400=>((spec_l24DrawWatch.f k bt400.1 bt400.2.1 bt400.2.2).bind fun bt404=>((spec_l1Once.f bt400.1 bt404.2.2.1 bt404.2.2.2 4).bind fun bt413=>(if bt413.1=true then ((spec_DrawFlatRun.f k l0).bind fun bt416=>(some (bt416.1,bt416.2.1,bt416.2.2,bt404.1,bt404.2.1))) else ((spec_l18DrawRun.f k bt400.1 bt413.2.1 bt413.2.2 30).bind fun bt425=>(some (bt425.1,bt425.2.1,bt425.2.2.1,bt404.1,bt404.2.1))))))
theorem spec_DrawRunTo.mono: ∀a0 k,LeO (spec_DrawRunTo.f k a0) (spec_DrawRunTo.f (k+1) a0):=by
 intro a0 k
 unfold spec_DrawRunTo.f
 have mo0:=@spec_DrawFlatRun.mono
 have mo1:=@spec_l18DrawRun.mono
 have mo2:=@spec_l1New.mono
 have mo3:=@spec_l24DrawWatch.mono
 exact zL
def spec_DrawRunTo.T5:Bool×List (List Nat×List Nat):=(true,[([],[]),([],[]),([],[]),([],[]),([0,0],[0]),([1,4,0,1,4],[1]),([2,5,0,1,2,4,5],[2]),([3,6,0,1,2,3,4,5,6],[3])])
def spec_DrawRunTo.B5:List Nat:=[0,0,0,0,1,19,55,127]
theorem spec_DrawRunTo.tab5:rtab .any (opsOf Try.f8 5)=spec_DrawRunTo.T5:=by kernel_rfl
theorem spec_DrawRunTo.bits5:waitsOk spec_DrawRunTo.T5.2 spec_DrawRunTo.B5=true:=by kernel_rfl
def spec_DrawRunTo.T7:Bool×List (List Nat×List Nat):=(true,[([],[]),([],[]),([],[]),([],[]),([0,0],[0]),([1,4,0,1,4],[1]),([2,5,0,1,2,4,5],[2]),([3,6,0,1,2,3,4,5,6],[3])])
def spec_DrawRunTo.B7:List Nat:=[0,0,0,0,1,19,55,127]
theorem spec_DrawRunTo.tab7:rtab .any (opsOf Try.f8 7)=spec_DrawRunTo.T7:=by kernel_rfl
theorem spec_DrawRunTo.bits7:waitsOk spec_DrawRunTo.T7.2 spec_DrawRunTo.B7=true:=by kernel_rfl
theorem spec_DrawRunTo.calls (k:Nat) (A0:Option Addr) (c0:Nat) (l0:List Int) (r1:List Int) (r2:List (S53)) (r3:List Int) (r4:List Int) (r5:List Int) (w:World) (hr0:Kd.C (Kd.int .u8) w A0 l0.length l0) (hc0:l0.length≤c0) (h:spec_DrawRunTo.f k l0=some (r1,r2,r3,r4,r5)):
  Calls Try.prog 8 #[.slice A0 l0.length c0] w fun e w'=>∃v0_ v1_ v2_ v3_ v4_:Value,e= .returned (.tuple #[v0_,v1_,v2_,.agg #[v3_,v4_]])∧Kd.R (Kd.int .i64) 3 w' w.heap.size (fun k_=>(w.heap.size≤k_)∧some k_≠(v2_:Value).ownBlock∧some k_≠(v3_:Value).ownBlock∧some k_≠(v4_:Value).ownBlock) v0_ r1∧Kd.N k53 53 w' w.heap.size (fun k_=>(w.heap.size≤k_)∧some k_≠(v0_:Value).ownBlock∧some k_≠(v2_:Value).ownBlock∧some k_≠(v3_:Value).ownBlock∧some k_≠(v4_:Value).ownBlock) v1_ r2∧Kd.R (Kd.int .i64) 3 w' w.heap.size (fun k_=>(w.heap.size≤k_)∧some k_≠(v0_:Value).ownBlock∧some k_≠(v3_:Value).ownBlock∧some k_≠(v4_:Value).ownBlock) v2_ r3∧Kd.R (Kd.int .i64) 3 w' w.heap.size (fun k_=>(w.heap.size≤k_)∧some k_≠(v0_:Value).ownBlock∧some k_≠(v2_:Value).ownBlock∧some k_≠(v4_:Value).ownBlock) v3_ r4∧Kd.R (Kd.int .i64) 3 w' w.heap.size (fun k_=>(w.heap.size≤k_)∧some k_≠(v0_:Value).ownBlock∧some k_≠(v2_:Value).ownBlock∧some k_≠(v3_:Value).ownBlock) v4_ r5∧Below w.heap.size w w':=by
 have hu27:=Try.underlying27
 have HR0:=zM hr0
 have HC0:=zM hc0
 clear hr0 hc0
 have HB:=zM (Below.refl w.heap.size w)
 unfold spec_DrawRunTo.f at h
 have H:=h
 clear h
 replace H:=zO H
 obtain ⟨⟨t400,t401,t402⟩,A2,H⟩:=H
 try dsimp only at H
 replace H:=zO H
 obtain ⟨⟨t404,t407,t410,t411⟩,A3,H⟩:=H
 try dsimp only at H
 replace H:=zO H
 obtain ⟨⟨t413,t414,t415⟩,A4,H⟩:=H
 try dsimp only at H
 by_cases c5:t413=true
 ·subst c5
  rw [if_pos rfl] at H
  replace H:=zO H
  obtain ⟨⟨t416,t419,t422⟩,A6,H⟩:=H
  try dsimp only at H
  simp only [Option.some.injEq,Prod.mk.injEq] at H
  obtain ⟨rfl,rfl,rfl,rfl,rfl⟩:=H
  go_enter Try.func8,Try.ntmps8
  try go_wp2_with (first|((with_reducible refine zBx 5 27 #[.slice none 0 0,.slice none 0 0] ?_);intro gb399 hg w7 hbox hb;have BK399:=zM hbox;have GW399:=zM (zW hg (below_size zB0));have GE399:=zM (zW hg (below_size zB0));replace HB:=zM (below_step zB0 hb);clear hb hbox hg)|((with_reducible refine zG Try.func54 15 #[.slice A0 l0.length c0] ?_);(with_reducible refine (spec_l1New.calls k _ _ l0 t400 t401 t402 w _ ?side1 ?side2 ?side3 A2.1).mono ?_);(case side1=>exact zB0);(case side2=>exact HR0.1);(case side3=>exact HC0.1);rintro e w8 ⟨g403,rfl,hi,hb,hb2⟩;refine ⟨_,rfl,?_⟩;replace HB:=zM hb;have HI403:=zM hi;have NB403_399:=zM (IsS106.ne_blk hi (zb BK399.1 hb2) (by decide));have NB399_403:=zM (Ne.symm (IsS106.ne_blk hi (zb BK399.1 hb2) (by decide)));replace BK399:=zM (zb BK399.1 hb2);clear hb hb2 hi)|((with_reducible refine zG Try.func55 17 #[.pointer (some ⟨g403,0,none⟩)] ?_);(with_reducible refine (spec_l24DrawWatch.calls k g403 t400 t401 t402 t404 t407 t410 t411 w _ ?side1 ?side2 A3.1).mono ?_);(case side1=>exact zB43);(case side2=>exact zB44);rintro e w9 ⟨v405,v408,rfl,ho0,ho1,hi,hb,hk⟩;refine ⟨_,rfl,?_⟩;replace BK399:=zM (zh hk BK399.1 NB399_403.1);have HO406:=zM (Kd.R_lower (Kd.R_newM (M:=fun k_=>(w.heap.size≤k_)) ho0 (below_size zB44) (fun k_ h_=>h_)) (below_size zB44));have HO409:=zM (Kd.R_lower (Kd.R_newM (M:=fun k_=>(w.heap.size≤k_)) ho1 (below_size zB44) (fun k_ h_=>h_)) (below_size zB44));replace HB:=zM hb;replace HI403:=zM hi;clear hb hk hi ho0 ho1)|((with_reducible refine zBx 7 27 #[.slice none 0 0,.slice none 0 0] ?_);intro gb412 hg w10 hbox hb;replace HO406:=zM (Kd.R_below (zR HO406.1) hb);replace HO409:=zM (Kd.R_below (zR HO409.1) hb);have BK412:=zM hbox;have GW412:=zM (zW hg (below_size zB44));have GE412:=zM (zW hg (below_size zB44));replace HB:=zM (below_step zB44 hb);have NB399_412:=zM ((zn BK399.1 hg:gb399≠gb412));have NB412_399:=zM ((zm BK399.1 hg:gb412≠gb399));replace BK399:=zM (zb BK399.1 hb);have NB403_412:=zM ((by rw [hg];exact Nat.ne_of_lt (IsS106.lt (show IsS106 w _ g403 t400 t410 t411 from zB43)):g403≠gb412));have NB412_403:=zM ((by rw [hg];exact Nat.ne_of_gt (IsS106.lt (show IsS106 w _ g403 t400 t410 t411 from zB43)):gb412≠g403));replace HI403:=zM (IsS106.below zB43 hb);clear hb hbox hg;obtain ⟨Ao11,co11,eo11⟩:=Kd.R_slice HO406.1;subst eo11;have hnb12:=NB412_399.1;have hnc12:=NB399_412.1;have hnb13:=NB412_403.1;have hnc13:=NB403_412.1;have hcz14:=zc_2 (w:=w10) BK412.1;obtain ⟨Ao15,co15,eo15⟩:=Kd.R_slice HO409.1;subst eo15)|((with_reducible refine zG Try.func56 19 #[.pointer (some ⟨g403,0,none⟩),.int .i64 4] ?_);(with_reducible refine (spec_l1Once.calls g403 t400 t410 t411 4 true t414 t415 w _ ?side1 ?side2 A4.1).mono ?_);(case side1=>exact zB45);(case side2=>exact zB44);rintro e w16 ⟨rfl,hi,hb,hk⟩;refine ⟨_,rfl,?_⟩;replace BK399:=zM (KeepBut.blk hk (g':=gb399) (o:= .cells #[.slice none 0 0,.slice none 0 0] 27 (0,0)) zPq NB399_403.1 (by simp));replace HO406:=zM (Kd.R_mono (Kd.R_keep (IsS106.apart (show IsS106 w _ g403 t400 t410 t411 from zB45) (by refine zrR ?_;exact (Kd.R_mono (zfR (zfR (Kd.R_types HO406.1 BK412.1 (by decide)))) (fun _ h_=>h_.1))) (by decide)) hk (fun _ h=>h.2)) (fun _ h=>h.1));replace HO409:=zM (Kd.R_mono (Kd.R_keep (IsS106.apart (show IsS106 w _ g403 t400 t410 t411 from zB45) (by refine zrR ?_;exact (Kd.R_mono (zfR (zfR (Kd.R_types HO409.1 BK412.1 (by decide)))) (fun _ h_=>h_.1))) (by decide)) hk (fun _ h=>h.2)) (fun _ h=>h.1));replace BK412:=zM (KeepBut.blk hk (g':=gb412) (o:= .cells #[.slice Ao11 t404.length co11,.slice Ao15 t407.length co15] 27 (0,0)) (by exact zp2 (zK BK412.1)) NB412_403.1 (by simp));replace HB:=zM hb;replace HI403:=zM hi;clear hb hk hi)|((with_reducible refine zG Try.func57 22 #[.slice A0 l0.length c0] ?_);(with_reducible refine (spec_DrawFlatRun.calls k _ _ l0 t416 t419 t422 _ ?side1 ?side2 A6.1).mono ?_);(case side1=>exact zC (Kd.C_below HR0.1 HB.1));(case side2=>exact HC0.1);rintro e w17 ⟨v417,v420,v423,rfl,ho0,ho1,ho2,hb⟩;refine ⟨_,rfl,?_⟩;have HO418:=zM (Kd.R_lower (Kd.R_new' (Kd.R_new' (Kd.R_newM (M:=fun k_=>(w.heap.size≤k_)) (Kd.R_mono (ok':=fun k_=>some k_≠(v423:Value).ownBlock) ho0 (fun _ hk_=>hk_.2)) (below_size zB44) (fun k_ h_=>h_)) (Kd.R_lt (zR HO406.1))) (Kd.R_lt (zR HO409.1))) (below_size zB44));have HO421:=zM (Kd.N_lower (Kd.N_mono (ok':=fun k_=>(w.heap.size≤k_)∧some k_≠(v417:Value).ownBlock∧some k_≠(v423:Value).ownBlock∧some k_≠(.slice Ao11 t404.length co11:Value).ownBlock∧some k_≠(.slice Ao15 t407.length co15:Value).ownBlock∧k_≠gb399∧k_≠gb412∧k_≠g403) ho1 (fun k_ hk_=>⟨(Nat.le_trans (below_size zB44) hk_.1),hk_.2.1,hk_.2.2,(Kd.fresh' (Kd.R_lt (zR HO406.1)) k_ hk_.1),(Kd.fresh' (Kd.R_lt (zR HO409.1)) k_ hk_.1),(Kd.freshB (g:=gb399) (o:= .cells #[.slice none 0 0,.slice none 0 0] 27 (0,0)) (zK BK399.1) k_ hk_.1),(Kd.freshB (g:=gb412) (o:= .cells #[.slice Ao11 t404.length co11,.slice Ao15 t407.length co15] 27 (0,0)) (zK BK412.1) k_ hk_.1),(IsS106.fresh zB45 k_ hk_.1)⟩)) (below_size zB44));have HO424:=zM (Kd.R_lower (Kd.R_new' (Kd.R_new' (Kd.R_newM (M:=fun k_=>(w.heap.size≤k_)) (Kd.R_mono (ok':=fun k_=>some k_≠(v417:Value).ownBlock) ho2 (fun _ hk_=>hk_.2)) (below_size zB44) (fun k_ h_=>h_)) (Kd.R_lt (zR HO406.1))) (Kd.R_lt (zR HO409.1))) (below_size zB44));replace HO406:=zM (Kd.R_mono (Kd.R_told (Kd.R_told (Kd.R_old (zR HO406.1) hb) (Kd.R_base ho0)) (Kd.R_base ho2)) (fun _ h_=>h_.1));replace HO409:=zM (Kd.R_mono (Kd.R_told (Kd.R_told (Kd.R_old (zR HO409.1) hb) (Kd.R_base ho0)) (Kd.R_base ho2)) (fun _ h_=>h_.1));replace BK399:=zM (zb BK399.1 hb);replace BK412:=zM (zb BK412.1 hb);replace HB:=zM (below_step zB44 hb);replace HI403:=zM (IsS106.below zB45 hb);clear hb ho0 ho1 ho2))
  replace HO406:=zM (Kd.R_drew HO406.1)
  replace HO409:=zM (Kd.R_drew HO409.1)
  replace HO418:=zM (Kd.R_drew HO418.1)
  replace HO421:=zM (Kd.N_drew HO421.1)
  replace HO424:=zM (Kd.R_drew HO424.1)
  replace BK399:=zM (blk_drew BK399.1)
  replace BK412:=zM (blk_drew BK412.1)
  replace HI403:=zM (IsS106.drew HI403.1)
  replace HB:=zM (below_drew1 HB.1)
  refine start_ (n:=8) (S:=fun w'=>w'.cell? ⟨gb412,0,none⟩=some (.slice Ao11 t404.length co11)∧w'.cell? ⟨gb412,1,none⟩=some (.slice Ao15 t407.length co15)) (ds:=[]) zq7_0 (by kernel_rfl) rfl rfl ⟨(blk_cell BK412.1 0).trans rfl,(blk_cell BK412.1 1).trans rfl⟩ (fun hHeld=>?_);refine with_tabW spec_DrawRunTo.tab5 spec_DrawRunTo.bits5 (fun HT_ HW_=>?_)
  generalize w17.drew=w18 at HO406 HO409 HO418 HO421 HO424 BK399 BK412 HI403 HB hHeld ⊢
  refine zPu 0 ?_
  refine zPu 1 ?_
  refine zPu 2 ?_
  refine zPu 4 ?_
  refine zPu 5 ?_
  refine zPu 6 ?_
  refine zTk2 3 hHeld ?_
  refine zOn 7 none fun K hK=>?_
  obtain ⟨hs19,hfs19⟩:=zHs BK399.1 0
  have hns19_1:=NB412_399.1
  have hms19_1:=NB399_412.1
  obtain ⟨hs20,hfs20⟩:=zHs BK399.1 1
  have hns20_1:=NB412_399.1
  have hms20_1:=NB399_412.1
  refine skip_ (w1:=?_) (by rfl) rfl ?_ ?_
  rotate_left
  ·go_simp
   rfl
  refine hK.out _ _ zCs fun hHeld=>?_
  clear hK K
  refine done_ (done_of HT_.1 (by kernel_rfl)) ?_
  try go_wp2
  refine bodyPost_ret (results_list (rs:=[.tmp 2,.tmp 3,.tmp 4,.cell 5 27]) rfl (by simp) (.tmp (.tmp (.tmp (.cell gb399 27 #[.slice Ao11 t404.length co11,.slice Ao15 t407.length co15] (0,0) _ rfl (by exact zp2 (zK BK399.1)) Try.underlying27 rfl (by kernel_rfl) .nil))))) rfl ?_
  exact ⟨_,_,_,_,_,zE,by refine zrR ?_;exact Kd.R_mono (zfR (zfR (Kd.R_types HO418.1 BK399.1 (by decide)))) (fun _ hk=>⟨hk.1.1.1.1,⟨hk.1.1.1.2,⟨hk.1.1.2,hk.1.2⟩⟩⟩),by refine zrN ?_;exact Kd.N_mono (zfN (zfN (Kd.N_mono HO421.1 (fun k_ hk=>(⟨hk,hk.2.2.2.2.2.1⟩:_∧k_≠gb399))))) (fun _ hk=>⟨hk.1.1,⟨hk.1.2.1,⟨hk.1.2.2.1,⟨hk.1.2.2.2.1,hk.1.2.2.2.2.1⟩⟩⟩⟩),by refine zrR ?_;exact Kd.R_mono (zfR (zfR (Kd.R_types HO424.1 BK399.1 (by decide)))) (fun _ hk=>⟨hk.1.1.1.1,⟨hk.1.1.1.2,⟨hk.1.1.2,hk.1.2⟩⟩⟩),by refine zrR ?_;exact Kd.R_mono (zfR (zfR (Kd.R_types HO406.1 BK399.1 (by decide)))) (fun _ hk=>⟨hk.1.1.1.1,⟨hk.1.1.2,⟨hk.1.2,hk.1.1.1.2⟩⟩⟩),by refine zrR ?_;exact Kd.R_mono (zfR (zfR (Kd.R_types HO409.1 BK399.1 (by decide)))) (fun _ hk=>⟨hk.1.1.1.1,⟨hk.1.1.2,⟨hk.1.2,hk.1.1.1.2⟩⟩⟩),zB44⟩
 replace c5:=Bool.eq_false_iff.mpr c5
 subst c5
 rw [if_neg zF] at H
 replace H:=zO H
 obtain ⟨⟨t425,t428,t431,t434,t435⟩,A21,H⟩:=H
 try dsimp only at H
 simp only [Option.some.injEq,Prod.mk.injEq] at H
 obtain ⟨rfl,rfl,rfl,rfl,rfl⟩:=H
 go_enter Try.func8,Try.ntmps8
 try go_wp2_with (first|((with_reducible refine zBx 5 27 #[.slice none 0 0,.slice none 0 0] ?_);intro gb399 hg w22 hbox hb;have BK399:=zM hbox;have GW399:=zM (zW hg (below_size zB0));have GE399:=zM (zW hg (below_size zB0));replace HB:=zM (below_step zB0 hb);clear hb hbox hg)|((with_reducible refine zG Try.func54 15 #[.slice A0 l0.length c0] ?_);(with_reducible refine (spec_l1New.calls k _ _ l0 t400 t401 t402 w _ ?side1 ?side2 ?side3 A2.1).mono ?_);(case side1=>exact zB0);(case side2=>exact HR0.1);(case side3=>exact HC0.1);rintro e w23 ⟨g403,rfl,hi,hb,hb2⟩;refine ⟨_,rfl,?_⟩;replace HB:=zM hb;have HI403:=zM hi;have NB403_399:=zM (IsS106.ne_blk hi (zb BK399.1 hb2) (by decide));have NB399_403:=zM (Ne.symm (IsS106.ne_blk hi (zb BK399.1 hb2) (by decide)));replace BK399:=zM (zb BK399.1 hb2);clear hb hb2 hi)|((with_reducible refine zG Try.func55 17 #[.pointer (some ⟨g403,0,none⟩)] ?_);(with_reducible refine (spec_l24DrawWatch.calls k g403 t400 t401 t402 t404 t407 t410 t411 w _ ?side1 ?side2 A3.1).mono ?_);(case side1=>exact zB43);(case side2=>exact zB44);rintro e w24 ⟨v405,v408,rfl,ho0,ho1,hi,hb,hk⟩;refine ⟨_,rfl,?_⟩;replace BK399:=zM (zh hk BK399.1 NB399_403.1);have HO406:=zM (Kd.R_lower (Kd.R_newM (M:=fun k_=>(w.heap.size≤k_)) ho0 (below_size zB44) (fun k_ h_=>h_)) (below_size zB44));have HO409:=zM (Kd.R_lower (Kd.R_newM (M:=fun k_=>(w.heap.size≤k_)) ho1 (below_size zB44) (fun k_ h_=>h_)) (below_size zB44));replace HB:=zM hb;replace HI403:=zM hi;clear hb hk hi ho0 ho1)|((with_reducible refine zBx 7 27 #[.slice none 0 0,.slice none 0 0] ?_);intro gb412 hg w25 hbox hb;replace HO406:=zM (Kd.R_below (zR HO406.1) hb);replace HO409:=zM (Kd.R_below (zR HO409.1) hb);have BK412:=zM hbox;have GW412:=zM (zW hg (below_size zB44));have GE412:=zM (zW hg (below_size zB44));replace HB:=zM (below_step zB44 hb);have NB399_412:=zM ((zn BK399.1 hg:gb399≠gb412));have NB412_399:=zM ((zm BK399.1 hg:gb412≠gb399));replace BK399:=zM (zb BK399.1 hb);have NB403_412:=zM ((by rw [hg];exact Nat.ne_of_lt (IsS106.lt (show IsS106 w _ g403 t400 t410 t411 from zB43)):g403≠gb412));have NB412_403:=zM ((by rw [hg];exact Nat.ne_of_gt (IsS106.lt (show IsS106 w _ g403 t400 t410 t411 from zB43)):gb412≠g403));replace HI403:=zM (IsS106.below zB43 hb);clear hb hbox hg;obtain ⟨Ao26,co26,eo26⟩:=Kd.R_slice HO406.1;subst eo26;have hnb27:=NB412_399.1;have hnc27:=NB399_412.1;have hnb28:=NB412_403.1;have hnc28:=NB403_412.1;have hcz29:=zc_2 (w:=w25) BK412.1;obtain ⟨Ao30,co30,eo30⟩:=Kd.R_slice HO409.1;subst eo30)|((with_reducible refine zG Try.func56 19 #[.pointer (some ⟨g403,0,none⟩),.int .i64 4] ?_);(with_reducible refine (spec_l1Once.calls g403 t400 t410 t411 4 false t414 t415 w _ ?side1 ?side2 A4.1).mono ?_);(case side1=>exact zB45);(case side2=>exact zB44);rintro e w31 ⟨rfl,hi,hb,hk⟩;refine ⟨_,rfl,?_⟩;replace BK399:=zM (KeepBut.blk hk (g':=gb399) (o:= .cells #[.slice none 0 0,.slice none 0 0] 27 (0,0)) zPq NB399_403.1 (by simp));replace HO406:=zM (Kd.R_mono (Kd.R_keep (IsS106.apart (show IsS106 w _ g403 t400 t410 t411 from zB45) (by refine zrR ?_;exact (Kd.R_mono (zfR (zfR (Kd.R_types HO406.1 BK412.1 (by decide)))) (fun _ h_=>h_.1))) (by decide)) hk (fun _ h=>h.2)) (fun _ h=>h.1));replace HO409:=zM (Kd.R_mono (Kd.R_keep (IsS106.apart (show IsS106 w _ g403 t400 t410 t411 from zB45) (by refine zrR ?_;exact (Kd.R_mono (zfR (zfR (Kd.R_types HO409.1 BK412.1 (by decide)))) (fun _ h_=>h_.1))) (by decide)) hk (fun _ h=>h.2)) (fun _ h=>h.1));replace BK412:=zM (KeepBut.blk hk (g':=gb412) (o:= .cells #[.slice Ao26 t404.length co26,.slice Ao30 t407.length co30] 27 (0,0)) (by exact zp2 (zK BK412.1)) NB412_403.1 (by simp));replace HB:=zM hb;replace HI403:=zM hi;clear hb hk hi)|((with_reducible refine zG Try.func58 32 #[.pointer (some ⟨g403,0,none⟩),.int .i64 30] ?_);(with_reducible refine (spec_l18DrawRun.calls k g403 t400 t414 t415 30 t425 t428 t431 t434 t435 w _ ?side1 ?side2 A21.1).mono ?_);(case side1=>exact zB45);(case side2=>exact zB44);rintro e w32 ⟨v426,v429,v432,rfl,ho0,ho1,ho2,hi,hb,hk⟩;refine ⟨_,rfl,?_⟩;have HO427:=zM (Kd.R_lower (Kd.R_new' (Kd.R_new' (Kd.R_newM (M:=fun k_=>(w.heap.size≤k_)) (Kd.R_mono (ok':=fun k_=>some k_≠(v432:Value).ownBlock) ho0 (fun _ hk_=>hk_.2)) (below_size zB44) (fun k_ h_=>h_)) (Kd.R_lt (zR HO406.1))) (Kd.R_lt (zR HO409.1))) (below_size zB44));have HO430:=zM (Kd.N_lower (Kd.N_mono (ok':=fun k_=>(w.heap.size≤k_)∧some k_≠(v426:Value).ownBlock∧some k_≠(v432:Value).ownBlock∧some k_≠(.slice Ao26 t404.length co26:Value).ownBlock∧some k_≠(.slice Ao30 t407.length co30:Value).ownBlock∧k_≠gb399∧k_≠gb412∧k_≠g403) ho1 (fun k_ hk_=>⟨(Nat.le_trans (below_size zB44) hk_.1),hk_.2.1,hk_.2.2,(Kd.fresh' (Kd.R_lt (zR HO406.1)) k_ hk_.1),(Kd.fresh' (Kd.R_lt (zR HO409.1)) k_ hk_.1),(Kd.freshB (g:=gb399) (o:= .cells #[.slice none 0 0,.slice none 0 0] 27 (0,0)) (zK BK399.1) k_ hk_.1),(Kd.freshB (g:=gb412) (o:= .cells #[.slice Ao26 t404.length co26,.slice Ao30 t407.length co30] 27 (0,0)) (zK BK412.1) k_ hk_.1),(IsS106.fresh zB45 k_ hk_.1)⟩)) (below_size zB44));replace BK399:=zM (zh hk BK399.1 NB399_403.1);replace BK412:=zM (zh hk BK412.1 NB412_403.1);have HO433:=zM (Kd.R_lower (Kd.R_new' (Kd.R_new' (Kd.R_newM (M:=fun k_=>(w.heap.size≤k_)) (Kd.R_mono (ok':=fun k_=>some k_≠(v426:Value).ownBlock) ho2 (fun _ hk_=>hk_.2)) (below_size zB44) (fun k_ h_=>h_)) (Kd.R_lt (zR HO406.1))) (Kd.R_lt (zR HO409.1))) (below_size zB44));replace HO406:=zM (Kd.R_mono (Kd.R_told (Kd.R_told (Kd.R_oldK (IsS106.apart (show IsS106 w _ g403 t400 t414 t415 from zB45) (zR HO406.1) (by decide)) hk) (Kd.R_base ho0)) (Kd.R_base ho2)) (fun _ h_=>h_.1));replace HO409:=zM (Kd.R_mono (Kd.R_told (Kd.R_told (Kd.R_oldK (IsS106.apart (show IsS106 w _ g403 t400 t414 t415 from zB45) (zR HO409.1) (by decide)) hk) (Kd.R_base ho0)) (Kd.R_base ho2)) (fun _ h_=>h_.1));replace HB:=zM hb;replace HI403:=zM hi;clear hb hk hi ho0 ho1 ho2))
 replace HO406:=zM (Kd.R_drew HO406.1)
 replace HO409:=zM (Kd.R_drew HO409.1)
 replace HO427:=zM (Kd.R_drew HO427.1)
 replace HO430:=zM (Kd.N_drew HO430.1)
 replace HO433:=zM (Kd.R_drew HO433.1)
 replace BK399:=zM (blk_drew BK399.1)
 replace BK412:=zM (blk_drew BK412.1)
 replace HI403:=zM (IsS106.drew HI403.1)
 replace HB:=zM (below_drew1 HB.1)
 refine start_ (n:=8) (S:=fun w'=>w'.cell? ⟨gb412,0,none⟩=some (.slice Ao26 t404.length co26)∧w'.cell? ⟨gb412,1,none⟩=some (.slice Ao30 t407.length co30)) (ds:=[]) zq7_0 (by kernel_rfl) rfl rfl ⟨(blk_cell BK412.1 0).trans rfl,(blk_cell BK412.1 1).trans rfl⟩ (fun hHeld=>?_);refine with_tabW spec_DrawRunTo.tab7 spec_DrawRunTo.bits7 (fun HT_ HW_=>?_)
 generalize w32.drew=w33 at HO406 HO409 HO427 HO430 HO433 BK399 BK412 HI403 HB hHeld ⊢
 refine zPu 0 ?_
 refine zPu 1 ?_
 refine zPu 2 ?_
 refine zPu 4 ?_
 refine zPu 5 ?_
 refine zPu 6 ?_
 refine zTk2 3 hHeld ?_
 refine zOn 7 none fun K hK=>?_
 obtain ⟨hs34,hfs34⟩:=zHs BK399.1 0
 have hns34_1:=NB412_399.1
 have hms34_1:=NB399_412.1
 obtain ⟨hs35,hfs35⟩:=zHs BK399.1 1
 have hns35_1:=NB412_399.1
 have hms35_1:=NB399_412.1
 refine skip_ (w1:=?_) (by rfl) rfl ?_ ?_
 rotate_left
 ·go_simp
  rfl
 refine hK.out _ _ zCs fun hHeld=>?_
 clear hK K
 refine done_ (done_of HT_.1 (by kernel_rfl)) ?_
 try go_wp2
 refine bodyPost_ret (results_list (rs:=[.tmp 2,.tmp 3,.tmp 4,.cell 5 27]) rfl (by simp) (.tmp (.tmp (.tmp (.cell gb399 27 #[.slice Ao26 t404.length co26,.slice Ao30 t407.length co30] (0,0) _ rfl (by exact zp2 (zK BK399.1)) Try.underlying27 rfl (by kernel_rfl) .nil))))) rfl ?_
 exact ⟨_,_,_,_,_,zE,by refine zrR ?_;exact Kd.R_mono (zfR (zfR (Kd.R_types HO427.1 BK399.1 (by decide)))) (fun _ hk=>⟨hk.1.1.1.1,⟨hk.1.1.1.2,⟨hk.1.1.2,hk.1.2⟩⟩⟩),by refine zrN ?_;exact Kd.N_mono (zfN (zfN (Kd.N_mono HO430.1 (fun k_ hk=>(⟨hk,hk.2.2.2.2.2.1⟩:_∧k_≠gb399))))) (fun _ hk=>⟨hk.1.1,⟨hk.1.2.1,⟨hk.1.2.2.1,⟨hk.1.2.2.2.1,hk.1.2.2.2.2.1⟩⟩⟩⟩),by refine zrR ?_;exact Kd.R_mono (zfR (zfR (Kd.R_types HO433.1 BK399.1 (by decide)))) (fun _ hk=>⟨hk.1.1.1.1,⟨hk.1.1.1.2,⟨hk.1.1.2,hk.1.2⟩⟩⟩),by refine zrR ?_;exact Kd.R_mono (zfR (zfR (Kd.R_types HO406.1 BK399.1 (by decide)))) (fun _ hk=>⟨hk.1.1.1.1,⟨hk.1.1.2,⟨hk.1.2,hk.1.1.1.2⟩⟩⟩),by refine zrR ?_;exact Kd.R_mono (zfR (zfR (Kd.R_types HO409.1 BK399.1 (by decide)))) (fun _ hk=>⟨hk.1.1.1.1,⟨hk.1.1.2,⟨hk.1.2,hk.1.1.1.2⟩⟩⟩),zB44⟩

-- NOT PRINTED: function 110 (slices_IndexFunc_int_int)

-- NOT PRINTED: function 73 (slices_ContainsFunc_int_int)

-- NOT PRINTED: function 111 (slices_Grow_int_int)

/-! ### slices_Grow_at_nil: function 111 -/
def slices_Grow_at_nil.f (a0 a1:Int):Option (List Int):=if 0≤a1∧a1≤17592186044415 then some [] else none
theorem slices_Grow_at_nil.calls (a0 a1:Int) (r:List Int) (w:World) (h:slices_Grow_at_nil.f a0 a1=some r):
  Calls Try.prog 111 #[.slice none 0 0,.int .i64 a1] w fun e w'=>∃v0_:Value,e= .returned v0_∧Kd.R (Kd.int .i64) 3 w' w.heap.size (fun _=>True) v0_ r∧Below w.heap.size w w':=by
 unfold slices_Grow_at_nil.f at h
 by_cases hl:0≤a1∧a1≤17592186044415
 rotate_left
 ·rw [if_neg hl] at h
  exact absurd h (by simp)
 rw [if_pos hl] at h
 obtain rfl:=Option.some.inj h
 have HL:=zM hl
 have h1:decide (a1<0)=false:=decide_eq_false (by omega)
 have h2:wrap64 a1=a1:=by unfold wrap64;omega
 clear h
 have HB:=zM (Below.refl w.heap.size w)
 by_cases hz:0<a1
 rotate_left
 ·have h3:decide (0<a1)=false:=decide_eq_false hz
  clear hl hz
  go_enter Try.func111,Try.ntmps111
  go_wp2_with (first|fail)
  go_ret
  exact ⟨_,rfl,Kd.R_nil _ _ _ _ _,zB0⟩
 have h3:decide (0<a1)=true:=decide_eq_true hz
 clear hl hz
 go_enter Try.func111,Try.ntmps111
 go_wp2_with (first|((with_reducible refine gate_builtin (b:= .append) (xs:=#[.tmp 20,.tmp 21]) rfl ?_);refine Kd.R_append_zeros (Kd.int .i64) (w0:=w) w.heap.size rfl (.tmp 20) (.tmp 21) 24 3 3 (.int .i64 0) 8 rfl Try.underlying24 Try.underlying3 info3 rfl (by decide) (by omega) (.slice none 0 0) [] 0 (wrap64 a1) (fun _=>True) rfl rfl rfl (fun _ _=>trivial) (Kd.R_nil _ _ _ _ _) (by rw [h2];exact HL.1.1) HB.1 (Nat.le_refl _) ?aL ?_;(case aL=>have h_:=HL.1;rw [h2];simp;omega);intro v1 w1 ho hb hg hat;obtain ⟨A',c',e'⟩:=Kd.R_slice ho;subst e';have HO:=zM (Kd.R_take (m:=0) ho (Nat.zero_le _));have HB1:=zM hb;clear ho hb hg hat HB))
 go_ret
 exact ⟨_,rfl,zR HO.1,zB47⟩

end Go.Proofs.Ytpcgecacaemalaa.PFnStops
