-- made by wip/tools/myprint.py out of the seat's translation
import Derived.Test.YtpcgecacaemalaaPFnStopsx0
import Derived.Test.YtpcgecacaemalaaPFnStopsx2
import Derived.Test.YtpcgecacaemalaaPFnStopsx7
import Derived.Test.YtpcgecacaemalaaPFnStopsx14
import Derived.Test.YtpcgecacaemalaaPFnStopsx21
import Derived.Test.YtpcgecacaemalaaPFnStopsx22
namespace Go.Proofs.Ytpcgecacaemalaa.PFnStops
open Go.RowKit Go.Proofs.YtpcgecacaemalaaW.PrintWords Go.Proofs.YtpcgecacaemalaaW.PrintLast Go.Proofs.YtpcgecacaemalaaW.PrintMore
attribute [local go_sem] max2_int min2_int max_two min_two max_three min_three max_four min_four -- for this text's walks alone
set_option linter.unusedVariables false
set_option linter.unusedSimpArgs false
set_option maxHeartbeats 8000000
set_option maxRecDepth 100000

/-! ### laws_FnStops: function 5 -/
mutual
def laws_FnStops.j0:Nat→List Int→List (S53)→List Int→List (S53)→Int→Int→Bool→List Int→List Int→Option (Bool)
 |0,_,_,_,_,_,_,_,_,_=>none
 |k+1,x3,x4,x5,x8,x9,x10,x54,x842000,x842001=>if x54=true then (some false) else (if x10=1 then (if x9<(x5.length:Int) then (if 0≤x9 then (if 0≤(rd x5 x9) then (if (rd x5 x9)<(x8.length:Int) then ((laws_within.f k x842000 ((rd_T53 x8 (rd x5 x9)).f1)).bind fun t860=>(some t860)) else (none)) else (none)) else (none)) else (some false)) else (if x10=0 then (if x9=(x5.length:Int) then (some true) else (some (x9 == 0))) else (if 0≤x9 then (if x9≤(x5.length:Int) then ((impl_Trace.f k x3 x4 (x5.take (x9:Int).toNat)).bind fun t866=>(if (t866.length:Int)=0 then (some false) else (laws_FnStops.l0 k t866 0 x842000 x842001))) else (none)) else (none))))
def laws_FnStops.l0:Nat→List (S57)→Int→List Int→List Int→Option (Bool)
 |0,_,_,_,_=>none
 |k+1,x15,x16,x842000,x842001=>if (wrap64 (x16+1))<(x15.length:Int) then (if 0≤x16 then (if x16<(x15.length:Int) then (if ((rd_T57 x15 x16).f4)≥0 then ((laws_within.f k x842001 ((rd_T57 x15 x16).f2)).bind fun t871=>(if t871=true then (some false) else (laws_FnStops.l0 k x15 (wrap64 (x16+1)) x842000 x842001))) else (laws_FnStops.l0 k x15 (wrap64 (x16+1)) x842000 x842001)) else (none)) else (none)) else (if 0≤(wrap64 ((x15.length:Int)-1)) then (if (wrap64 ((x15.length:Int)-1))<(x15.length:Int) then (if ((rd_T57 x15 (wrap64 ((x15.length:Int)-1))).f4)≥0 then ((laws_within.f k x842001 ((rd_T57 x15 (wrap64 ((x15.length:Int)-1))).f2)).bind fun t874=>(some t874)) else (some false)) else (none)) else (none))
end
def laws_FnStops.f (k:Nat) (l0:List Int):Option (Bool):=(laws_big.f l0).bind fun t825=>(if t825=true then (some true) else ((spec_DrawRunTo.f k l0).bind fun bt826=>((impl_RunTo.f k bt826.1 bt826.2.1 bt826.2.2.1 bt826.2.2.2.1 bt826.2.2.2.2).bind fun bt842=>((spec_RunTo.f k bt826.1 bt826.2.1 bt826.2.2.1 bt826.2.2.2.1 bt826.2.2.2.2).bind fun bt850=>(if bt842.2.2.1=bt850.2.2.1 then (laws_FnStops.j0 k bt826.1 bt826.2.1 bt826.2.2.1 bt842.2.1 bt842.2.2.1 bt842.2.2.2 (bt842.2.2.2 != bt850.2.2.2) bt826.2.2.2.1 bt826.2.2.2.2) else (laws_FnStops.j0 k bt826.1 bt826.2.1 bt826.2.2.1 bt842.2.1 bt842.2.2.1 bt842.2.2.2 true bt826.2.2.2.1 bt826.2.2.2.2))))))
theorem laws_FnStops.mono_l: ∀k,(∀y0 y1 y2 y3 y4 y5 y6 y7 y8,LeO (laws_FnStops.j0 k y0 y1 y2 y3 y4 y5 y6 y7 y8) (laws_FnStops.j0 (k+1) y0 y1 y2 y3 y4 y5 y6 y7 y8))∧(∀y0 y1 y2 y3,LeO (laws_FnStops.l0 k y0 y1 y2 y3) (laws_FnStops.l0 (k+1) y0 y1 y2 y3))
 |0=>⟨fun _ _ _ _ _ _ _ _ _ r h=>by simp [laws_FnStops.j0] at h,fun _ _ _ _ r h=>by simp [laws_FnStops.l0] at h⟩
 |k+1=>by
  obtain ⟨ih0,ih1⟩:=laws_FnStops.mono_l k
  refine ⟨?_,?_⟩
  ·intros
   unfold laws_FnStops.j0
   have mo0:=@impl_RunTo.mono
   have mo1:=@impl_Trace.mono
   have mo2:=@laws_within.mono
   have mo3:=@spec_DrawRunTo.mono
   have mo4:=@spec_RunTo.mono
   exact zL
  ·intros
   unfold laws_FnStops.l0
   have mo0:=@impl_RunTo.mono
   have mo1:=@impl_Trace.mono
   have mo2:=@laws_within.mono
   have mo3:=@spec_DrawRunTo.mono
   have mo4:=@spec_RunTo.mono
   exact zL
theorem laws_FnStops.mono: ∀a0 k,LeO (laws_FnStops.f k a0) (laws_FnStops.f (k+1) a0):=by
 intro a0 k
 obtain ⟨ih0,ih1⟩:=laws_FnStops.mono_l k
 unfold laws_FnStops.f
 have mo0:=@impl_RunTo.mono
 have mo1:=@impl_Trace.mono
 have mo2:=@laws_within.mono
 have mo3:=@spec_DrawRunTo.mono
 have mo4:=@spec_RunTo.mono
 exact zL
theorem laws_FnStops.calls (k:Nat) (A0:Option Addr) (c0:Nat) (l0:List Int) (r:Bool) (w:World) (hr0:Kd.C (Kd.int .u8) w A0 l0.length l0) (hc0:l0.length≤c0) (h:laws_FnStops.f k l0=some r):
  Calls Try.prog 5 #[.slice A0 l0.length c0] w fun e w'=>e= .returned (.bool r)∧Below w.heap.size w w':=by
 have hu27:=Try.underlying27
 have hu57:=Try.underlying57
 have HR0:=zM hr0
 have HC0:=zM hc0
 clear hr0 hc0
 have HB:=zM (Below.refl w.heap.size w)
 unfold laws_FnStops.f at h
 have H:=h
 clear h
 replace H:=zO H
 obtain ⟨t825,A2,H⟩:=H
 by_cases c3:t825=true
 ·subst c3
  rw [if_pos rfl] at H
  obtain rfl:=Option.some.inj H
  go_enter Try.func5,Try.ntmps5
  go_wp2_with (first|(go_at_call 7;(with_reducible refine (laws_big.calls _ _ l0 true _ ?side1 ?side2 A2.1).mono ?_);(case side1=>exact zC HR0.1);(case side2=>exact HC0.1);rintro e w' ⟨rfl,⟨nd,rfl⟩⟩;(try first|exact ⟨rfl,_,World.drewN_drewN _ _ _⟩|exact ⟨rfl,_,Eq.trans (World.drewN_drewN _ _ _) (congrArg (World.drewN _) (Nat.add_assoc _ _ _))⟩)))
  repeat (go_quiet (first|(go_at_call 7;(with_reducible refine (laws_big.calls _ _ l0 true _ ?side1 ?side2 A2.1).mono ?_);(case side1=>exact zC HR0.1);(case side2=>exact HC0.1);rintro e w' ⟨rfl,⟨nd,rfl⟩⟩;(try first|exact ⟨rfl,_,World.drewN_drewN _ _ _⟩|exact ⟨rfl,_,Eq.trans (World.drewN_drewN _ _ _) (congrArg (World.drewN _) (Nat.add_assoc _ _ _))⟩)));try go_wp2_with (first|(go_at_call 7;(with_reducible refine (laws_big.calls _ _ l0 true _ ?side1 ?side2 A2.1).mono ?_);(case side1=>exact zC HR0.1);(case side2=>exact HC0.1);rintro e w' ⟨rfl,⟨nd,rfl⟩⟩;(try first|exact ⟨rfl,_,World.drewN_drewN _ _ _⟩|exact ⟨rfl,_,Eq.trans (World.drewN_drewN _ _ _) (congrArg (World.drewN _) (Nat.add_assoc _ _ _))⟩))))
  go_ret
  exact ⟨zE,zB0⟩
 replace c3:=Bool.eq_false_iff.mpr c3
 subst c3
 rw [if_neg zF] at H
 replace H:=zO H
 obtain ⟨⟨t826,t829,t832,t835,t838⟩,A4,H⟩:=H
 try dsimp only at H
 replace H:=zO H
 obtain ⟨⟨t842,t845,t848,t849⟩,A5,H⟩:=H
 try dsimp only at H
 replace H:=zO H
 obtain ⟨⟨t850,t853,t856,t857⟩,A6,H⟩:=H
 try dsimp only at H
 have HC7:=zM H
 clear H
 go_enter Try.func5,Try.ntmps5
 go_upto_region 6 with (first|(go_at_call 7;(with_reducible refine (laws_big.calls _ _ l0 false _ ?side1 ?side2 A2.1).mono ?_);(case side1=>exact zC HR0.1);(case side2=>exact HC0.1);rintro e w' ⟨rfl,⟨nd,rfl⟩⟩;(try first|exact ⟨rfl,_,World.drewN_drewN _ _ _⟩|exact ⟨rfl,_,Eq.trans (World.drewN_drewN _ _ _) (congrArg (World.drewN _) (Nat.add_assoc _ _ _))⟩))|(go_at_call 8;(with_reducible refine (spec_DrawRunTo.calls k _ _ l0 t826 t829 t832 t835 t838 _ ?side1 ?side2 A4.1).mono ?_);(case side1=>exact zC HR0.1);(case side2=>exact HC0.1);rintro e w8 ⟨v827,v830,v833,v836,v839,rfl,ho0,ho1,ho2,ho3,ho4,hb⟩;have n0_:=zM (Kd.R_lower (Kd.R_mono (ok':=fun k_=>some k_≠(v833:Value).ownBlock∧some k_≠(v836:Value).ownBlock∧some k_≠(v839:Value).ownBlock) ho0 (fun _ hk_=>hk_.2)) (below_size zB0));have n1_:=zM (Kd.N_lower (Kd.N_mono (ok':=fun k_=>some k_≠(v827:Value).ownBlock∧some k_≠(v833:Value).ownBlock∧some k_≠(v836:Value).ownBlock∧some k_≠(v839:Value).ownBlock) ho1 (fun k_ hk_=>⟨hk_.2.1,hk_.2.2.1,hk_.2.2.2.1,hk_.2.2.2.2⟩)) (below_size zB0));have n2_:=zM (Kd.R_lower (Kd.R_mono (ok':=fun k_=>some k_≠(v827:Value).ownBlock∧some k_≠(v836:Value).ownBlock∧some k_≠(v839:Value).ownBlock) ho2 (fun _ hk_=>hk_.2)) (below_size zB0));have n3_:=zM (Kd.R_lower (Kd.R_mono (ok':=fun k_=>some k_≠(v827:Value).ownBlock∧some k_≠(v833:Value).ownBlock∧some k_≠(v839:Value).ownBlock) ho3 (fun _ hk_=>hk_.2)) (below_size zB0));have n4_:=zM (Kd.R_lower (Kd.R_mono (ok':=fun k_=>some k_≠(v827:Value).ownBlock∧some k_≠(v833:Value).ownBlock∧some k_≠(v836:Value).ownBlock) ho4 (fun _ hk_=>hk_.2)) (below_size zB0));have n5_:=zM (below_step zB0 hb);clear HB;have HO828:=n0_;have HO831:=n1_;have HO834:=n2_;have HO837:=n3_;have HO840:=n4_;have HB:=n5_;clear n0_ n1_ n2_ n3_ n4_ n5_;clear hb ho0 ho1 ho2 ho3 ho4)|((with_reducible refine zBx 6 27 #[.slice none 0 0,.slice none 0 0] ?_);intro gb841 hg w9 hbox hb;have n0_:=zM (Kd.R_below (zR HO828.1) hb);have n1_:=zM (Kd.N_below (Kd.N_elderB (by refine zrN ?_;exact HO831.1) gb841 (Nat.le_of_eq hg.symm)) hb);have n2_:=zM (Kd.R_below (zR HO834.1) hb);have n3_:=zM (Kd.R_below (zR HO837.1) hb);have n4_:=zM (Kd.R_below (zR HO840.1) hb);have n5_:=zM (below_step zB0 hb);have n6_:=zM hbox;have n7_:=zM (zW hg (below_size zB0));have n8_:=zM (zW hg (below_size zB0));clear HO828;clear HO831;clear HO834;clear HO837;clear HO840;clear HB;have HO828:=n0_;have HO831:=n1_;have HO834:=n2_;have HO837:=n3_;have HO840:=n4_;have HB:=n5_;have BK841:=n6_;have GW841:=n7_;have GE841:=n8_;clear n0_ n1_ n2_ n3_ n4_ n5_ n6_ n7_ n8_;clear hb hbox hg;obtain ⟨Ao10,co10,eo10⟩:=Kd.R_slice HO837.1;subst eo10;have hcz11:=zc_2 (w:=w9) BK841.1;obtain ⟨Ao12,co12,eo12⟩:=Kd.R_slice HO840.1;subst eo12;obtain ⟨Ao13,co13,eo13⟩:=Kd.R_slice HO828.1;subst eo13;obtain ⟨Ao14,co14,eo14⟩:=Kd.N_slice HO831.1;subst eo14;obtain ⟨Ao15,co15,eo15⟩:=Kd.R_slice HO834.1;subst eo15)|(go_at_call 9;(with_reducible refine (impl_RunTo.calls k _ _ t826 _ _ t829 _ _ t832 _ _ t835 _ _ t838 t842 t845 t848 t849 _ ?side1 ?side2 ?side3 ?side4 ?side5 ?side6 ?side7 ?side8 ?side9 ?side10 A5.1).mono ?_);(case side1=>refine (Kd.R_reads' (e:=3) (base:=w.heap.size) (ok:=fun k_=>(some k_≠(.slice Ao15 t832.length co15:Value).ownBlock∧(some k_≠(.slice Ao10 t835.length co10:Value).ownBlock∧some k_≠(.slice Ao12 t838.length co12:Value).ownBlock))) (n:=t826.length) (c:=co13) ?_).2.2;exact (by refine zrR ?_;exact (Kd.R_mono (zfR (zfR (Kd.R_types HO828.1 BK841.1 (by decide)))) (fun _ h_=>h_.1))));(case side2=>exact (Kd.R_reads' HO828.1).2.1);(case side3=>refine (Kd.N_reads' (e:=53) (base:=w.heap.size) (ok:=fun k_=>((some k_≠(.slice Ao13 t826.length co13:Value).ownBlock∧(some k_≠(.slice Ao15 t832.length co15:Value).ownBlock∧(some k_≠(.slice Ao10 t835.length co10:Value).ownBlock∧some k_≠(.slice Ao12 t838.length co12:Value).ownBlock)))∧k_≠gb841)) (n:=t829.length) (c:=co14) ?_).2.2;exact (by refine zrN ?_;exact (Kd.N_mono (zfN (zfN (Kd.N_mono HO831.1 (fun k_ hk=>(⟨hk,hk.2⟩:_∧k_≠gb841))))) (fun _ h_=>h_.1))));(case side4=>exact (Kd.N_reads' HO831.1).2.1);(case side5=>refine (Kd.R_reads' (e:=3) (base:=w.heap.size) (ok:=fun k_=>(some k_≠(.slice Ao13 t826.length co13:Value).ownBlock∧(some k_≠(.slice Ao10 t835.length co10:Value).ownBlock∧some k_≠(.slice Ao12 t838.length co12:Value).ownBlock))) (n:=t832.length) (c:=co15) ?_).2.2;exact (by refine zrR ?_;exact (Kd.R_mono (zfR (zfR (Kd.R_types HO834.1 BK841.1 (by decide)))) (fun _ h_=>h_.1))));(case side6=>exact (Kd.R_reads' HO834.1).2.1);(case side7=>refine (Kd.R_reads' (e:=3) (base:=w.heap.size) (ok:=fun k_=>(some k_≠(.slice Ao13 t826.length co13:Value).ownBlock∧(some k_≠(.slice Ao15 t832.length co15:Value).ownBlock∧some k_≠(.slice Ao12 t838.length co12:Value).ownBlock))) (n:=t835.length) (c:=co10) ?_).2.2;exact (by refine zrR ?_;exact (Kd.R_mono (zfR (zfR (Kd.R_types HO837.1 BK841.1 (by decide)))) (fun _ h_=>h_.1))));(case side8=>exact (Kd.R_reads' HO837.1).2.1);(case side9=>refine (Kd.R_reads' (e:=3) (base:=w.heap.size) (ok:=fun k_=>(some k_≠(.slice Ao13 t826.length co13:Value).ownBlock∧(some k_≠(.slice Ao15 t832.length co15:Value).ownBlock∧some k_≠(.slice Ao10 t835.length co10:Value).ownBlock))) (n:=t838.length) (c:=co12) ?_).2.2;exact (by refine zrR ?_;exact (Kd.R_mono (zfR (zfR (Kd.R_types HO840.1 BK841.1 (by decide)))) (fun _ h_=>h_.1))));(case side10=>exact (Kd.R_reads' HO840.1).2.1);rintro e w16 ⟨v843,v846,rfl,ho0,ho1,hb⟩;have n0_:=zM (Kd.R_elder' (by refine zrR ?_;exact (Kd.R_mono (zfR (zfR (Kd.R_types HO828.1 BK841.1 (by decide)))) (fun _ h_=>h_.1))) (Kd.R_base ho0) hb);have n1_:=zM (Kd.N_mono (Kd.N_told (Kd.N_told (Kd.N_old (by refine zrN ?_;exact (Kd.N_mono (zfN (zfN (Kd.N_mono HO831.1 (fun k_ hk=>(⟨hk,hk.2⟩:_∧k_≠gb841))))) (fun _ h_=>h_.1))) hb) (Kd.R_base ho0)) (Kd.R_base (Kd.S_R ho1))) (fun _ h_=>h_.1));have n2_:=zM (Kd.R_elder' (by refine zrR ?_;exact (Kd.R_mono (zfR (zfR (Kd.R_types HO834.1 BK841.1 (by decide)))) (fun _ h_=>h_.1))) (Kd.R_base ho0) hb);have n3_:=zM (Kd.R_elder' (by refine zrR ?_;exact (Kd.R_mono (zfR (zfR (Kd.R_types HO837.1 BK841.1 (by decide)))) (fun _ h_=>h_.1))) (Kd.R_base ho0) hb);have n4_:=zM (Kd.R_elder' (by refine zrR ?_;exact (Kd.R_mono (zfR (zfR (Kd.R_types HO840.1 BK841.1 (by decide)))) (fun _ h_=>h_.1))) (Kd.R_base ho0) hb);have n5_:=zM (Kd.R_lower (Kd.R_new' (Kd.R_new' (Kd.R_new' (Kd.R_new' ho0 (Kd.R_lt (by refine zrR ?_;exact (Kd.R_mono (zfR (zfR (Kd.R_types HO828.1 BK841.1 (by decide)))) (fun _ h_=>h_.1))))) (Kd.R_lt (by refine zrR ?_;exact (Kd.R_mono (zfR (zfR (Kd.R_types HO834.1 BK841.1 (by decide)))) (fun _ h_=>h_.1))))) (Kd.R_lt (by refine zrR ?_;exact (Kd.R_mono (zfR (zfR (Kd.R_types HO837.1 BK841.1 (by decide)))) (fun _ h_=>h_.1))))) (Kd.R_lt (by refine zrR ?_;exact (Kd.R_mono (zfR (zfR (Kd.R_types HO840.1 BK841.1 (by decide)))) (fun _ h_=>h_.1))))) (below_size zB0));have n6_:=zM (Kd.N_lower (Kd.N_mono (ok':=fun k_=>some k_≠(v843:Value).ownBlock∧some k_≠(.slice Ao13 t826.length co13:Value).ownBlock∧some k_≠(.slice Ao14 t829.length co14:Value).ownBlock∧some k_≠(.slice Ao15 t832.length co15:Value).ownBlock∧some k_≠(.slice Ao10 t835.length co10:Value).ownBlock∧some k_≠(.slice Ao12 t838.length co12:Value).ownBlock∧k_≠gb841) (Kd.S_N (Kd.S_bound ho1)) (fun k_ hk_=>⟨hk_.1,(Kd.fresh' (Kd.R_lt (by refine zrR ?_;exact (Kd.R_mono (zfR (zfR (Kd.R_types HO828.1 BK841.1 (by decide)))) (fun _ h_=>h_.1)))) k_ hk_.2.1),(Kd.fresh' (Kd.N_lt (by refine zrN ?_;exact (Kd.N_mono (zfN (zfN (Kd.N_mono HO831.1 (fun k_ hk=>(⟨hk,hk.2⟩:_∧k_≠gb841))))) (fun _ h_=>h_.1)))) k_ hk_.2.1),(Kd.fresh' (Kd.R_lt (by refine zrR ?_;exact (Kd.R_mono (zfR (zfR (Kd.R_types HO834.1 BK841.1 (by decide)))) (fun _ h_=>h_.1)))) k_ hk_.2.1),(Kd.fresh' (Kd.R_lt (by refine zrR ?_;exact (Kd.R_mono (zfR (zfR (Kd.R_types HO837.1 BK841.1 (by decide)))) (fun _ h_=>h_.1)))) k_ hk_.2.1),(Kd.fresh' (Kd.R_lt (by refine zrR ?_;exact (Kd.R_mono (zfR (zfR (Kd.R_types HO840.1 BK841.1 (by decide)))) (fun _ h_=>h_.1)))) k_ hk_.2.1),(Kd.freshB (g:=gb841) (o:= .cells #[.slice Ao10 t835.length co10,.slice Ao12 t838.length co12] 27 (0,0)) (by exact zp2 (zK BK841.1)) k_ hk_.2.1)⟩)) (below_size zB0));have n7_:=zM (blk_below (g:=gb841) (o:= .cells #[.slice Ao10 t835.length co10,.slice Ao12 t838.length co12] 27 (0,0)) (by exact zp2 (zK BK841.1)) hb);have n8_:=zM (below_step zB0 hb);clear HO828;clear HO831;clear HO834;clear HO837;clear HO840;clear BK841;clear HB;have HO828:=n0_;have HO831:=n1_;have HO834:=n2_;have HO837:=n3_;have HO840:=n4_;have HO844:=n5_;have HO847:=n6_;have BK841:=n7_;have HB:=n8_;clear n0_ n1_ n2_ n3_ n4_ n5_ n6_ n7_ n8_;clear hb ho0 ho1;have hcz17:=zc_2 (w:=w16) BK841.1)|(go_at_call 10;(with_reducible refine (spec_RunTo.calls k _ _ t826 _ _ t829 _ _ t832 _ _ t835 _ _ t838 t850 t853 t856 t857 _ ?side1 ?side2 ?side3 ?side4 ?side5 ?side6 ?side7 ?side8 ?side9 ?side10 A6.1).mono ?_);(case side1=>exact zC (Kd.R_reads' HO828.1).2.2);(case side2=>exact (Kd.R_reads' HO828.1).2.1);(case side3=>exact zC (Kd.N_reads' HO831.1).2.2);(case side4=>exact (Kd.N_reads' HO831.1).2.1);(case side5=>exact zC (Kd.R_reads' HO834.1).2.2);(case side6=>exact (Kd.R_reads' HO834.1).2.1);(case side7=>exact zC (Kd.R_reads' HO837.1).2.2);(case side8=>exact (Kd.R_reads' HO837.1).2.1);(case side9=>exact zC (Kd.R_reads' HO840.1).2.2);(case side10=>exact (Kd.R_reads' HO840.1).2.1);rintro e w18 ⟨v851,v854,rfl,ho0,ho1,hb⟩;have n0_:=zM (Kd.R_elder' (zR HO828.1) (Kd.R_base ho0) hb);have n1_:=zM (Kd.N_mono (Kd.N_told (Kd.N_told (Kd.N_old (by refine zrN ?_;exact HO831.1) hb) (Kd.R_base ho0)) (Kd.R_base (Kd.S_R ho1))) (fun _ h_=>h_.1));have n2_:=zM (Kd.R_elder' (zR HO834.1) (Kd.R_base ho0) hb);have n3_:=zM (Kd.R_elder' (zR HO837.1) (Kd.R_base ho0) hb);have n4_:=zM (Kd.R_elder' (zR HO840.1) (Kd.R_base ho0) hb);have n5_:=zM (Kd.R_elder' (zR HO844.1) (Kd.R_base ho0) hb);have n6_:=zM (Kd.N_mono (Kd.N_told (Kd.N_told (Kd.N_old (by refine zrN ?_;exact HO847.1) hb) (Kd.R_base ho0)) (Kd.R_base (Kd.S_R ho1))) (fun _ h_=>h_.1));have n7_:=zM (Kd.R_lower (Kd.R_new' (Kd.R_new' (Kd.R_new' (Kd.R_new' (Kd.R_new' ho0 (Kd.R_lt (zR HO828.1))) (Kd.R_lt (zR HO834.1))) (Kd.R_lt (zR HO837.1))) (Kd.R_lt (zR HO840.1))) (Kd.R_lt (zR HO844.1))) (below_size zB0));have n8_:=zM (Kd.N_lower (Kd.N_mono (ok':=fun k_=>some k_≠(v851:Value).ownBlock∧some k_≠(.slice Ao13 t826.length co13:Value).ownBlock∧some k_≠(.slice Ao14 t829.length co14:Value).ownBlock∧some k_≠(.slice Ao15 t832.length co15:Value).ownBlock∧some k_≠(.slice Ao10 t835.length co10:Value).ownBlock∧some k_≠(.slice Ao12 t838.length co12:Value).ownBlock∧some k_≠(v843:Value).ownBlock∧some k_≠(v846:Value).ownBlock∧k_≠gb841) (Kd.S_N (Kd.S_bound ho1)) (fun k_ hk_=>⟨hk_.1,(Kd.fresh' (Kd.R_lt (zR HO828.1)) k_ hk_.2.1),(Kd.fresh' (Kd.N_lt (by refine zrN ?_;exact HO831.1)) k_ hk_.2.1),(Kd.fresh' (Kd.R_lt (zR HO834.1)) k_ hk_.2.1),(Kd.fresh' (Kd.R_lt (zR HO837.1)) k_ hk_.2.1),(Kd.fresh' (Kd.R_lt (zR HO840.1)) k_ hk_.2.1),(Kd.fresh' (Kd.R_lt (zR HO844.1)) k_ hk_.2.1),(Kd.fresh' (Kd.N_lt (by refine zrN ?_;exact HO847.1)) k_ hk_.2.1),(Kd.freshB (g:=gb841) (o:= .cells #[.slice Ao10 t835.length co10,.slice Ao12 t838.length co12] 27 (0,0)) (zK BK841.1) k_ hk_.2.1)⟩)) (below_size zB0));have n9_:=zM (zb BK841.1 hb);have n10_:=zM (below_step zB0 hb);clear HO828;clear HO831;clear HO834;clear HO837;clear HO840;clear HO844;clear HO847;clear BK841;clear HB;have HO828:=n0_;have HO831:=n1_;have HO834:=n2_;have HO837:=n3_;have HO840:=n4_;have HO844:=n5_;have HO847:=n6_;have HO852:=n7_;have HO855:=n8_;have BK841:=n9_;have HB:=n10_;clear n0_ n1_ n2_ n3_ n4_ n5_ n6_ n7_ n8_ n9_ n10_;clear hb ho0 ho1))
 repeat (go_quiet (first|(go_at_call 7;(with_reducible refine (laws_big.calls _ _ l0 false _ ?side1 ?side2 A2.1).mono ?_);(case side1=>exact zC HR0.1);(case side2=>exact HC0.1);rintro e w' ⟨rfl,⟨nd,rfl⟩⟩;(try first|exact ⟨rfl,_,World.drewN_drewN _ _ _⟩|exact ⟨rfl,_,Eq.trans (World.drewN_drewN _ _ _) (congrArg (World.drewN _) (Nat.add_assoc _ _ _))⟩))|(go_at_call 8;(with_reducible refine (spec_DrawRunTo.calls k _ _ l0 t826 t829 t832 t835 t838 _ ?side1 ?side2 A4.1).mono ?_);(case side1=>exact zC HR0.1);(case side2=>exact HC0.1);rintro e w8 ⟨v827,v830,v833,v836,v839,rfl,ho0,ho1,ho2,ho3,ho4,hb⟩;have n0_:=zM (Kd.R_lower (Kd.R_mono (ok':=fun k_=>some k_≠(v833:Value).ownBlock∧some k_≠(v836:Value).ownBlock∧some k_≠(v839:Value).ownBlock) ho0 (fun _ hk_=>hk_.2)) (below_size zB0));have n1_:=zM (Kd.N_lower (Kd.N_mono (ok':=fun k_=>some k_≠(v827:Value).ownBlock∧some k_≠(v833:Value).ownBlock∧some k_≠(v836:Value).ownBlock∧some k_≠(v839:Value).ownBlock) ho1 (fun k_ hk_=>⟨hk_.2.1,hk_.2.2.1,hk_.2.2.2.1,hk_.2.2.2.2⟩)) (below_size zB0));have n2_:=zM (Kd.R_lower (Kd.R_mono (ok':=fun k_=>some k_≠(v827:Value).ownBlock∧some k_≠(v836:Value).ownBlock∧some k_≠(v839:Value).ownBlock) ho2 (fun _ hk_=>hk_.2)) (below_size zB0));have n3_:=zM (Kd.R_lower (Kd.R_mono (ok':=fun k_=>some k_≠(v827:Value).ownBlock∧some k_≠(v833:Value).ownBlock∧some k_≠(v839:Value).ownBlock) ho3 (fun _ hk_=>hk_.2)) (below_size zB0));have n4_:=zM (Kd.R_lower (Kd.R_mono (ok':=fun k_=>some k_≠(v827:Value).ownBlock∧some k_≠(v833:Value).ownBlock∧some k_≠(v836:Value).ownBlock) ho4 (fun _ hk_=>hk_.2)) (below_size zB0));have n5_:=zM (below_step zB0 hb);clear HB;have HO828:=n0_;have HO831:=n1_;have HO834:=n2_;have HO837:=n3_;have HO840:=n4_;have HB:=n5_;clear n0_ n1_ n2_ n3_ n4_ n5_;clear hb ho0 ho1 ho2 ho3 ho4)|((with_reducible refine zBx 6 27 #[.slice none 0 0,.slice none 0 0] ?_);intro gb841 hg w9 hbox hb;have n0_:=zM (Kd.R_below (zR HO828.1) hb);have n1_:=zM (Kd.N_below (Kd.N_elderB (by refine zrN ?_;exact HO831.1) gb841 (Nat.le_of_eq hg.symm)) hb);have n2_:=zM (Kd.R_below (zR HO834.1) hb);have n3_:=zM (Kd.R_below (zR HO837.1) hb);have n4_:=zM (Kd.R_below (zR HO840.1) hb);have n5_:=zM (below_step zB0 hb);have n6_:=zM hbox;have n7_:=zM (zW hg (below_size zB0));have n8_:=zM (zW hg (below_size zB0));clear HO828;clear HO831;clear HO834;clear HO837;clear HO840;clear HB;have HO828:=n0_;have HO831:=n1_;have HO834:=n2_;have HO837:=n3_;have HO840:=n4_;have HB:=n5_;have BK841:=n6_;have GW841:=n7_;have GE841:=n8_;clear n0_ n1_ n2_ n3_ n4_ n5_ n6_ n7_ n8_;clear hb hbox hg;obtain ⟨Ao10,co10,eo10⟩:=Kd.R_slice HO837.1;subst eo10;have hcz11:=zc_2 (w:=w9) BK841.1;obtain ⟨Ao12,co12,eo12⟩:=Kd.R_slice HO840.1;subst eo12;obtain ⟨Ao13,co13,eo13⟩:=Kd.R_slice HO828.1;subst eo13;obtain ⟨Ao14,co14,eo14⟩:=Kd.N_slice HO831.1;subst eo14;obtain ⟨Ao15,co15,eo15⟩:=Kd.R_slice HO834.1;subst eo15)|(go_at_call 9;(with_reducible refine (impl_RunTo.calls k _ _ t826 _ _ t829 _ _ t832 _ _ t835 _ _ t838 t842 t845 t848 t849 _ ?side1 ?side2 ?side3 ?side4 ?side5 ?side6 ?side7 ?side8 ?side9 ?side10 A5.1).mono ?_);(case side1=>refine (Kd.R_reads' (e:=3) (base:=w.heap.size) (ok:=fun k_=>(some k_≠(.slice Ao15 t832.length co15:Value).ownBlock∧(some k_≠(.slice Ao10 t835.length co10:Value).ownBlock∧some k_≠(.slice Ao12 t838.length co12:Value).ownBlock))) (n:=t826.length) (c:=co13) ?_).2.2;exact (by refine zrR ?_;exact (Kd.R_mono (zfR (zfR (Kd.R_types HO828.1 BK841.1 (by decide)))) (fun _ h_=>h_.1))));(case side2=>exact (Kd.R_reads' HO828.1).2.1);(case side3=>refine (Kd.N_reads' (e:=53) (base:=w.heap.size) (ok:=fun k_=>((some k_≠(.slice Ao13 t826.length co13:Value).ownBlock∧(some k_≠(.slice Ao15 t832.length co15:Value).ownBlock∧(some k_≠(.slice Ao10 t835.length co10:Value).ownBlock∧some k_≠(.slice Ao12 t838.length co12:Value).ownBlock)))∧k_≠gb841)) (n:=t829.length) (c:=co14) ?_).2.2;exact (by refine zrN ?_;exact (Kd.N_mono (zfN (zfN (Kd.N_mono HO831.1 (fun k_ hk=>(⟨hk,hk.2⟩:_∧k_≠gb841))))) (fun _ h_=>h_.1))));(case side4=>exact (Kd.N_reads' HO831.1).2.1);(case side5=>refine (Kd.R_reads' (e:=3) (base:=w.heap.size) (ok:=fun k_=>(some k_≠(.slice Ao13 t826.length co13:Value).ownBlock∧(some k_≠(.slice Ao10 t835.length co10:Value).ownBlock∧some k_≠(.slice Ao12 t838.length co12:Value).ownBlock))) (n:=t832.length) (c:=co15) ?_).2.2;exact (by refine zrR ?_;exact (Kd.R_mono (zfR (zfR (Kd.R_types HO834.1 BK841.1 (by decide)))) (fun _ h_=>h_.1))));(case side6=>exact (Kd.R_reads' HO834.1).2.1);(case side7=>refine (Kd.R_reads' (e:=3) (base:=w.heap.size) (ok:=fun k_=>(some k_≠(.slice Ao13 t826.length co13:Value).ownBlock∧(some k_≠(.slice Ao15 t832.length co15:Value).ownBlock∧some k_≠(.slice Ao12 t838.length co12:Value).ownBlock))) (n:=t835.length) (c:=co10) ?_).2.2;exact (by refine zrR ?_;exact (Kd.R_mono (zfR (zfR (Kd.R_types HO837.1 BK841.1 (by decide)))) (fun _ h_=>h_.1))));(case side8=>exact (Kd.R_reads' HO837.1).2.1);(case side9=>refine (Kd.R_reads' (e:=3) (base:=w.heap.size) (ok:=fun k_=>(some k_≠(.slice Ao13 t826.length co13:Value).ownBlock∧(some k_≠(.slice Ao15 t832.length co15:Value).ownBlock∧some k_≠(.slice Ao10 t835.length co10:Value).ownBlock))) (n:=t838.length) (c:=co12) ?_).2.2;exact (by refine zrR ?_;exact (Kd.R_mono (zfR (zfR (Kd.R_types HO840.1 BK841.1 (by decide)))) (fun _ h_=>h_.1))));(case side10=>exact (Kd.R_reads' HO840.1).2.1);rintro e w16 ⟨v843,v846,rfl,ho0,ho1,hb⟩;have n0_:=zM (Kd.R_elder' (by refine zrR ?_;exact (Kd.R_mono (zfR (zfR (Kd.R_types HO828.1 BK841.1 (by decide)))) (fun _ h_=>h_.1))) (Kd.R_base ho0) hb);have n1_:=zM (Kd.N_mono (Kd.N_told (Kd.N_told (Kd.N_old (by refine zrN ?_;exact (Kd.N_mono (zfN (zfN (Kd.N_mono HO831.1 (fun k_ hk=>(⟨hk,hk.2⟩:_∧k_≠gb841))))) (fun _ h_=>h_.1))) hb) (Kd.R_base ho0)) (Kd.R_base (Kd.S_R ho1))) (fun _ h_=>h_.1));have n2_:=zM (Kd.R_elder' (by refine zrR ?_;exact (Kd.R_mono (zfR (zfR (Kd.R_types HO834.1 BK841.1 (by decide)))) (fun _ h_=>h_.1))) (Kd.R_base ho0) hb);have n3_:=zM (Kd.R_elder' (by refine zrR ?_;exact (Kd.R_mono (zfR (zfR (Kd.R_types HO837.1 BK841.1 (by decide)))) (fun _ h_=>h_.1))) (Kd.R_base ho0) hb);have n4_:=zM (Kd.R_elder' (by refine zrR ?_;exact (Kd.R_mono (zfR (zfR (Kd.R_types HO840.1 BK841.1 (by decide)))) (fun _ h_=>h_.1))) (Kd.R_base ho0) hb);have n5_:=zM (Kd.R_lower (Kd.R_new' (Kd.R_new' (Kd.R_new' (Kd.R_new' ho0 (Kd.R_lt (by refine zrR ?_;exact (Kd.R_mono (zfR (zfR (Kd.R_types HO828.1 BK841.1 (by decide)))) (fun _ h_=>h_.1))))) (Kd.R_lt (by refine zrR ?_;exact (Kd.R_mono (zfR (zfR (Kd.R_types HO834.1 BK841.1 (by decide)))) (fun _ h_=>h_.1))))) (Kd.R_lt (by refine zrR ?_;exact (Kd.R_mono (zfR (zfR (Kd.R_types HO837.1 BK841.1 (by decide)))) (fun _ h_=>h_.1))))) (Kd.R_lt (by refine zrR ?_;exact (Kd.R_mono (zfR (zfR (Kd.R_types HO840.1 BK841.1 (by decide)))) (fun _ h_=>h_.1))))) (below_size zB0));have n6_:=zM (Kd.N_lower (Kd.N_mono (ok':=fun k_=>some k_≠(v843:Value).ownBlock∧some k_≠(.slice Ao13 t826.length co13:Value).ownBlock∧some k_≠(.slice Ao14 t829.length co14:Value).ownBlock∧some k_≠(.slice Ao15 t832.length co15:Value).ownBlock∧some k_≠(.slice Ao10 t835.length co10:Value).ownBlock∧some k_≠(.slice Ao12 t838.length co12:Value).ownBlock∧k_≠gb841) (Kd.S_N (Kd.S_bound ho1)) (fun k_ hk_=>⟨hk_.1,(Kd.fresh' (Kd.R_lt (by refine zrR ?_;exact (Kd.R_mono (zfR (zfR (Kd.R_types HO828.1 BK841.1 (by decide)))) (fun _ h_=>h_.1)))) k_ hk_.2.1),(Kd.fresh' (Kd.N_lt (by refine zrN ?_;exact (Kd.N_mono (zfN (zfN (Kd.N_mono HO831.1 (fun k_ hk=>(⟨hk,hk.2⟩:_∧k_≠gb841))))) (fun _ h_=>h_.1)))) k_ hk_.2.1),(Kd.fresh' (Kd.R_lt (by refine zrR ?_;exact (Kd.R_mono (zfR (zfR (Kd.R_types HO834.1 BK841.1 (by decide)))) (fun _ h_=>h_.1)))) k_ hk_.2.1),(Kd.fresh' (Kd.R_lt (by refine zrR ?_;exact (Kd.R_mono (zfR (zfR (Kd.R_types HO837.1 BK841.1 (by decide)))) (fun _ h_=>h_.1)))) k_ hk_.2.1),(Kd.fresh' (Kd.R_lt (by refine zrR ?_;exact (Kd.R_mono (zfR (zfR (Kd.R_types HO840.1 BK841.1 (by decide)))) (fun _ h_=>h_.1)))) k_ hk_.2.1),(Kd.freshB (g:=gb841) (o:= .cells #[.slice Ao10 t835.length co10,.slice Ao12 t838.length co12] 27 (0,0)) (by exact zp2 (zK BK841.1)) k_ hk_.2.1)⟩)) (below_size zB0));have n7_:=zM (blk_below (g:=gb841) (o:= .cells #[.slice Ao10 t835.length co10,.slice Ao12 t838.length co12] 27 (0,0)) (by exact zp2 (zK BK841.1)) hb);have n8_:=zM (below_step zB0 hb);clear HO828;clear HO831;clear HO834;clear HO837;clear HO840;clear BK841;clear HB;have HO828:=n0_;have HO831:=n1_;have HO834:=n2_;have HO837:=n3_;have HO840:=n4_;have HO844:=n5_;have HO847:=n6_;have BK841:=n7_;have HB:=n8_;clear n0_ n1_ n2_ n3_ n4_ n5_ n6_ n7_ n8_;clear hb ho0 ho1;have hcz17:=zc_2 (w:=w16) BK841.1)|(go_at_call 10;(with_reducible refine (spec_RunTo.calls k _ _ t826 _ _ t829 _ _ t832 _ _ t835 _ _ t838 t850 t853 t856 t857 _ ?side1 ?side2 ?side3 ?side4 ?side5 ?side6 ?side7 ?side8 ?side9 ?side10 A6.1).mono ?_);(case side1=>exact zC (Kd.R_reads' HO828.1).2.2);(case side2=>exact (Kd.R_reads' HO828.1).2.1);(case side3=>exact zC (Kd.N_reads' HO831.1).2.2);(case side4=>exact (Kd.N_reads' HO831.1).2.1);(case side5=>exact zC (Kd.R_reads' HO834.1).2.2);(case side6=>exact (Kd.R_reads' HO834.1).2.1);(case side7=>exact zC (Kd.R_reads' HO837.1).2.2);(case side8=>exact (Kd.R_reads' HO837.1).2.1);(case side9=>exact zC (Kd.R_reads' HO840.1).2.2);(case side10=>exact (Kd.R_reads' HO840.1).2.1);rintro e w18 ⟨v851,v854,rfl,ho0,ho1,hb⟩;have n0_:=zM (Kd.R_elder' (zR HO828.1) (Kd.R_base ho0) hb);have n1_:=zM (Kd.N_mono (Kd.N_told (Kd.N_told (Kd.N_old (by refine zrN ?_;exact HO831.1) hb) (Kd.R_base ho0)) (Kd.R_base (Kd.S_R ho1))) (fun _ h_=>h_.1));have n2_:=zM (Kd.R_elder' (zR HO834.1) (Kd.R_base ho0) hb);have n3_:=zM (Kd.R_elder' (zR HO837.1) (Kd.R_base ho0) hb);have n4_:=zM (Kd.R_elder' (zR HO840.1) (Kd.R_base ho0) hb);have n5_:=zM (Kd.R_elder' (zR HO844.1) (Kd.R_base ho0) hb);have n6_:=zM (Kd.N_mono (Kd.N_told (Kd.N_told (Kd.N_old (by refine zrN ?_;exact HO847.1) hb) (Kd.R_base ho0)) (Kd.R_base (Kd.S_R ho1))) (fun _ h_=>h_.1));have n7_:=zM (Kd.R_lower (Kd.R_new' (Kd.R_new' (Kd.R_new' (Kd.R_new' (Kd.R_new' ho0 (Kd.R_lt (zR HO828.1))) (Kd.R_lt (zR HO834.1))) (Kd.R_lt (zR HO837.1))) (Kd.R_lt (zR HO840.1))) (Kd.R_lt (zR HO844.1))) (below_size zB0));have n8_:=zM (Kd.N_lower (Kd.N_mono (ok':=fun k_=>some k_≠(v851:Value).ownBlock∧some k_≠(.slice Ao13 t826.length co13:Value).ownBlock∧some k_≠(.slice Ao14 t829.length co14:Value).ownBlock∧some k_≠(.slice Ao15 t832.length co15:Value).ownBlock∧some k_≠(.slice Ao10 t835.length co10:Value).ownBlock∧some k_≠(.slice Ao12 t838.length co12:Value).ownBlock∧some k_≠(v843:Value).ownBlock∧some k_≠(v846:Value).ownBlock∧k_≠gb841) (Kd.S_N (Kd.S_bound ho1)) (fun k_ hk_=>⟨hk_.1,(Kd.fresh' (Kd.R_lt (zR HO828.1)) k_ hk_.2.1),(Kd.fresh' (Kd.N_lt (by refine zrN ?_;exact HO831.1)) k_ hk_.2.1),(Kd.fresh' (Kd.R_lt (zR HO834.1)) k_ hk_.2.1),(Kd.fresh' (Kd.R_lt (zR HO837.1)) k_ hk_.2.1),(Kd.fresh' (Kd.R_lt (zR HO840.1)) k_ hk_.2.1),(Kd.fresh' (Kd.R_lt (zR HO844.1)) k_ hk_.2.1),(Kd.fresh' (Kd.N_lt (by refine zrN ?_;exact HO847.1)) k_ hk_.2.1),(Kd.freshB (g:=gb841) (o:= .cells #[.slice Ao10 t835.length co10,.slice Ao12 t838.length co12] 27 (0,0)) (zK BK841.1) k_ hk_.2.1)⟩)) (below_size zB0));have n9_:=zM (zb BK841.1 hb);have n10_:=zM (below_step zB0 hb);clear HO828;clear HO831;clear HO834;clear HO837;clear HO840;clear HO844;clear HO847;clear BK841;clear HB;have HO828:=n0_;have HO831:=n1_;have HO834:=n2_;have HO837:=n3_;have HO840:=n4_;have HO844:=n5_;have HO847:=n6_;have HO852:=n7_;have HO855:=n8_;have BK841:=n9_;have HB:=n10_;clear n0_ n1_ n2_ n3_ n4_ n5_ n6_ n7_ n8_ n9_ n10_;clear hb ho0 ho1));go_upto_region 6 with (first|(go_at_call 7;(with_reducible refine (laws_big.calls _ _ l0 false _ ?side1 ?side2 A2.1).mono ?_);(case side1=>exact zC HR0.1);(case side2=>exact HC0.1);rintro e w' ⟨rfl,⟨nd,rfl⟩⟩;(try first|exact ⟨rfl,_,World.drewN_drewN _ _ _⟩|exact ⟨rfl,_,Eq.trans (World.drewN_drewN _ _ _) (congrArg (World.drewN _) (Nat.add_assoc _ _ _))⟩))|(go_at_call 8;(with_reducible refine (spec_DrawRunTo.calls k _ _ l0 t826 t829 t832 t835 t838 _ ?side1 ?side2 A4.1).mono ?_);(case side1=>exact zC HR0.1);(case side2=>exact HC0.1);rintro e w8 ⟨v827,v830,v833,v836,v839,rfl,ho0,ho1,ho2,ho3,ho4,hb⟩;have n0_:=zM (Kd.R_lower (Kd.R_mono (ok':=fun k_=>some k_≠(v833:Value).ownBlock∧some k_≠(v836:Value).ownBlock∧some k_≠(v839:Value).ownBlock) ho0 (fun _ hk_=>hk_.2)) (below_size zB0));have n1_:=zM (Kd.N_lower (Kd.N_mono (ok':=fun k_=>some k_≠(v827:Value).ownBlock∧some k_≠(v833:Value).ownBlock∧some k_≠(v836:Value).ownBlock∧some k_≠(v839:Value).ownBlock) ho1 (fun k_ hk_=>⟨hk_.2.1,hk_.2.2.1,hk_.2.2.2.1,hk_.2.2.2.2⟩)) (below_size zB0));have n2_:=zM (Kd.R_lower (Kd.R_mono (ok':=fun k_=>some k_≠(v827:Value).ownBlock∧some k_≠(v836:Value).ownBlock∧some k_≠(v839:Value).ownBlock) ho2 (fun _ hk_=>hk_.2)) (below_size zB0));have n3_:=zM (Kd.R_lower (Kd.R_mono (ok':=fun k_=>some k_≠(v827:Value).ownBlock∧some k_≠(v833:Value).ownBlock∧some k_≠(v839:Value).ownBlock) ho3 (fun _ hk_=>hk_.2)) (below_size zB0));have n4_:=zM (Kd.R_lower (Kd.R_mono (ok':=fun k_=>some k_≠(v827:Value).ownBlock∧some k_≠(v833:Value).ownBlock∧some k_≠(v836:Value).ownBlock) ho4 (fun _ hk_=>hk_.2)) (below_size zB0));have n5_:=zM (below_step zB0 hb);clear HB;have HO828:=n0_;have HO831:=n1_;have HO834:=n2_;have HO837:=n3_;have HO840:=n4_;have HB:=n5_;clear n0_ n1_ n2_ n3_ n4_ n5_;clear hb ho0 ho1 ho2 ho3 ho4)|((with_reducible refine zBx 6 27 #[.slice none 0 0,.slice none 0 0] ?_);intro gb841 hg w9 hbox hb;have n0_:=zM (Kd.R_below (zR HO828.1) hb);have n1_:=zM (Kd.N_below (Kd.N_elderB (by refine zrN ?_;exact HO831.1) gb841 (Nat.le_of_eq hg.symm)) hb);have n2_:=zM (Kd.R_below (zR HO834.1) hb);have n3_:=zM (Kd.R_below (zR HO837.1) hb);have n4_:=zM (Kd.R_below (zR HO840.1) hb);have n5_:=zM (below_step zB0 hb);have n6_:=zM hbox;have n7_:=zM (zW hg (below_size zB0));have n8_:=zM (zW hg (below_size zB0));clear HO828;clear HO831;clear HO834;clear HO837;clear HO840;clear HB;have HO828:=n0_;have HO831:=n1_;have HO834:=n2_;have HO837:=n3_;have HO840:=n4_;have HB:=n5_;have BK841:=n6_;have GW841:=n7_;have GE841:=n8_;clear n0_ n1_ n2_ n3_ n4_ n5_ n6_ n7_ n8_;clear hb hbox hg;obtain ⟨Ao10,co10,eo10⟩:=Kd.R_slice HO837.1;subst eo10;have hcz11:=zc_2 (w:=w9) BK841.1;obtain ⟨Ao12,co12,eo12⟩:=Kd.R_slice HO840.1;subst eo12;obtain ⟨Ao13,co13,eo13⟩:=Kd.R_slice HO828.1;subst eo13;obtain ⟨Ao14,co14,eo14⟩:=Kd.N_slice HO831.1;subst eo14;obtain ⟨Ao15,co15,eo15⟩:=Kd.R_slice HO834.1;subst eo15)|(go_at_call 9;(with_reducible refine (impl_RunTo.calls k _ _ t826 _ _ t829 _ _ t832 _ _ t835 _ _ t838 t842 t845 t848 t849 _ ?side1 ?side2 ?side3 ?side4 ?side5 ?side6 ?side7 ?side8 ?side9 ?side10 A5.1).mono ?_);(case side1=>refine (Kd.R_reads' (e:=3) (base:=w.heap.size) (ok:=fun k_=>(some k_≠(.slice Ao15 t832.length co15:Value).ownBlock∧(some k_≠(.slice Ao10 t835.length co10:Value).ownBlock∧some k_≠(.slice Ao12 t838.length co12:Value).ownBlock))) (n:=t826.length) (c:=co13) ?_).2.2;exact (by refine zrR ?_;exact (Kd.R_mono (zfR (zfR (Kd.R_types HO828.1 BK841.1 (by decide)))) (fun _ h_=>h_.1))));(case side2=>exact (Kd.R_reads' HO828.1).2.1);(case side3=>refine (Kd.N_reads' (e:=53) (base:=w.heap.size) (ok:=fun k_=>((some k_≠(.slice Ao13 t826.length co13:Value).ownBlock∧(some k_≠(.slice Ao15 t832.length co15:Value).ownBlock∧(some k_≠(.slice Ao10 t835.length co10:Value).ownBlock∧some k_≠(.slice Ao12 t838.length co12:Value).ownBlock)))∧k_≠gb841)) (n:=t829.length) (c:=co14) ?_).2.2;exact (by refine zrN ?_;exact (Kd.N_mono (zfN (zfN (Kd.N_mono HO831.1 (fun k_ hk=>(⟨hk,hk.2⟩:_∧k_≠gb841))))) (fun _ h_=>h_.1))));(case side4=>exact (Kd.N_reads' HO831.1).2.1);(case side5=>refine (Kd.R_reads' (e:=3) (base:=w.heap.size) (ok:=fun k_=>(some k_≠(.slice Ao13 t826.length co13:Value).ownBlock∧(some k_≠(.slice Ao10 t835.length co10:Value).ownBlock∧some k_≠(.slice Ao12 t838.length co12:Value).ownBlock))) (n:=t832.length) (c:=co15) ?_).2.2;exact (by refine zrR ?_;exact (Kd.R_mono (zfR (zfR (Kd.R_types HO834.1 BK841.1 (by decide)))) (fun _ h_=>h_.1))));(case side6=>exact (Kd.R_reads' HO834.1).2.1);(case side7=>refine (Kd.R_reads' (e:=3) (base:=w.heap.size) (ok:=fun k_=>(some k_≠(.slice Ao13 t826.length co13:Value).ownBlock∧(some k_≠(.slice Ao15 t832.length co15:Value).ownBlock∧some k_≠(.slice Ao12 t838.length co12:Value).ownBlock))) (n:=t835.length) (c:=co10) ?_).2.2;exact (by refine zrR ?_;exact (Kd.R_mono (zfR (zfR (Kd.R_types HO837.1 BK841.1 (by decide)))) (fun _ h_=>h_.1))));(case side8=>exact (Kd.R_reads' HO837.1).2.1);(case side9=>refine (Kd.R_reads' (e:=3) (base:=w.heap.size) (ok:=fun k_=>(some k_≠(.slice Ao13 t826.length co13:Value).ownBlock∧(some k_≠(.slice Ao15 t832.length co15:Value).ownBlock∧some k_≠(.slice Ao10 t835.length co10:Value).ownBlock))) (n:=t838.length) (c:=co12) ?_).2.2;exact (by refine zrR ?_;exact (Kd.R_mono (zfR (zfR (Kd.R_types HO840.1 BK841.1 (by decide)))) (fun _ h_=>h_.1))));(case side10=>exact (Kd.R_reads' HO840.1).2.1);rintro e w16 ⟨v843,v846,rfl,ho0,ho1,hb⟩;have n0_:=zM (Kd.R_elder' (by refine zrR ?_;exact (Kd.R_mono (zfR (zfR (Kd.R_types HO828.1 BK841.1 (by decide)))) (fun _ h_=>h_.1))) (Kd.R_base ho0) hb);have n1_:=zM (Kd.N_mono (Kd.N_told (Kd.N_told (Kd.N_old (by refine zrN ?_;exact (Kd.N_mono (zfN (zfN (Kd.N_mono HO831.1 (fun k_ hk=>(⟨hk,hk.2⟩:_∧k_≠gb841))))) (fun _ h_=>h_.1))) hb) (Kd.R_base ho0)) (Kd.R_base (Kd.S_R ho1))) (fun _ h_=>h_.1));have n2_:=zM (Kd.R_elder' (by refine zrR ?_;exact (Kd.R_mono (zfR (zfR (Kd.R_types HO834.1 BK841.1 (by decide)))) (fun _ h_=>h_.1))) (Kd.R_base ho0) hb);have n3_:=zM (Kd.R_elder' (by refine zrR ?_;exact (Kd.R_mono (zfR (zfR (Kd.R_types HO837.1 BK841.1 (by decide)))) (fun _ h_=>h_.1))) (Kd.R_base ho0) hb);have n4_:=zM (Kd.R_elder' (by refine zrR ?_;exact (Kd.R_mono (zfR (zfR (Kd.R_types HO840.1 BK841.1 (by decide)))) (fun _ h_=>h_.1))) (Kd.R_base ho0) hb);have n5_:=zM (Kd.R_lower (Kd.R_new' (Kd.R_new' (Kd.R_new' (Kd.R_new' ho0 (Kd.R_lt (by refine zrR ?_;exact (Kd.R_mono (zfR (zfR (Kd.R_types HO828.1 BK841.1 (by decide)))) (fun _ h_=>h_.1))))) (Kd.R_lt (by refine zrR ?_;exact (Kd.R_mono (zfR (zfR (Kd.R_types HO834.1 BK841.1 (by decide)))) (fun _ h_=>h_.1))))) (Kd.R_lt (by refine zrR ?_;exact (Kd.R_mono (zfR (zfR (Kd.R_types HO837.1 BK841.1 (by decide)))) (fun _ h_=>h_.1))))) (Kd.R_lt (by refine zrR ?_;exact (Kd.R_mono (zfR (zfR (Kd.R_types HO840.1 BK841.1 (by decide)))) (fun _ h_=>h_.1))))) (below_size zB0));have n6_:=zM (Kd.N_lower (Kd.N_mono (ok':=fun k_=>some k_≠(v843:Value).ownBlock∧some k_≠(.slice Ao13 t826.length co13:Value).ownBlock∧some k_≠(.slice Ao14 t829.length co14:Value).ownBlock∧some k_≠(.slice Ao15 t832.length co15:Value).ownBlock∧some k_≠(.slice Ao10 t835.length co10:Value).ownBlock∧some k_≠(.slice Ao12 t838.length co12:Value).ownBlock∧k_≠gb841) (Kd.S_N (Kd.S_bound ho1)) (fun k_ hk_=>⟨hk_.1,(Kd.fresh' (Kd.R_lt (by refine zrR ?_;exact (Kd.R_mono (zfR (zfR (Kd.R_types HO828.1 BK841.1 (by decide)))) (fun _ h_=>h_.1)))) k_ hk_.2.1),(Kd.fresh' (Kd.N_lt (by refine zrN ?_;exact (Kd.N_mono (zfN (zfN (Kd.N_mono HO831.1 (fun k_ hk=>(⟨hk,hk.2⟩:_∧k_≠gb841))))) (fun _ h_=>h_.1)))) k_ hk_.2.1),(Kd.fresh' (Kd.R_lt (by refine zrR ?_;exact (Kd.R_mono (zfR (zfR (Kd.R_types HO834.1 BK841.1 (by decide)))) (fun _ h_=>h_.1)))) k_ hk_.2.1),(Kd.fresh' (Kd.R_lt (by refine zrR ?_;exact (Kd.R_mono (zfR (zfR (Kd.R_types HO837.1 BK841.1 (by decide)))) (fun _ h_=>h_.1)))) k_ hk_.2.1),(Kd.fresh' (Kd.R_lt (by refine zrR ?_;exact (Kd.R_mono (zfR (zfR (Kd.R_types HO840.1 BK841.1 (by decide)))) (fun _ h_=>h_.1)))) k_ hk_.2.1),(Kd.freshB (g:=gb841) (o:= .cells #[.slice Ao10 t835.length co10,.slice Ao12 t838.length co12] 27 (0,0)) (by exact zp2 (zK BK841.1)) k_ hk_.2.1)⟩)) (below_size zB0));have n7_:=zM (blk_below (g:=gb841) (o:= .cells #[.slice Ao10 t835.length co10,.slice Ao12 t838.length co12] 27 (0,0)) (by exact zp2 (zK BK841.1)) hb);have n8_:=zM (below_step zB0 hb);clear HO828;clear HO831;clear HO834;clear HO837;clear HO840;clear BK841;clear HB;have HO828:=n0_;have HO831:=n1_;have HO834:=n2_;have HO837:=n3_;have HO840:=n4_;have HO844:=n5_;have HO847:=n6_;have BK841:=n7_;have HB:=n8_;clear n0_ n1_ n2_ n3_ n4_ n5_ n6_ n7_ n8_;clear hb ho0 ho1;have hcz17:=zc_2 (w:=w16) BK841.1)|(go_at_call 10;(with_reducible refine (spec_RunTo.calls k _ _ t826 _ _ t829 _ _ t832 _ _ t835 _ _ t838 t850 t853 t856 t857 _ ?side1 ?side2 ?side3 ?side4 ?side5 ?side6 ?side7 ?side8 ?side9 ?side10 A6.1).mono ?_);(case side1=>exact zC (Kd.R_reads' HO828.1).2.2);(case side2=>exact (Kd.R_reads' HO828.1).2.1);(case side3=>exact zC (Kd.N_reads' HO831.1).2.2);(case side4=>exact (Kd.N_reads' HO831.1).2.1);(case side5=>exact zC (Kd.R_reads' HO834.1).2.2);(case side6=>exact (Kd.R_reads' HO834.1).2.1);(case side7=>exact zC (Kd.R_reads' HO837.1).2.2);(case side8=>exact (Kd.R_reads' HO837.1).2.1);(case side9=>exact zC (Kd.R_reads' HO840.1).2.2);(case side10=>exact (Kd.R_reads' HO840.1).2.1);rintro e w18 ⟨v851,v854,rfl,ho0,ho1,hb⟩;have n0_:=zM (Kd.R_elder' (zR HO828.1) (Kd.R_base ho0) hb);have n1_:=zM (Kd.N_mono (Kd.N_told (Kd.N_told (Kd.N_old (by refine zrN ?_;exact HO831.1) hb) (Kd.R_base ho0)) (Kd.R_base (Kd.S_R ho1))) (fun _ h_=>h_.1));have n2_:=zM (Kd.R_elder' (zR HO834.1) (Kd.R_base ho0) hb);have n3_:=zM (Kd.R_elder' (zR HO837.1) (Kd.R_base ho0) hb);have n4_:=zM (Kd.R_elder' (zR HO840.1) (Kd.R_base ho0) hb);have n5_:=zM (Kd.R_elder' (zR HO844.1) (Kd.R_base ho0) hb);have n6_:=zM (Kd.N_mono (Kd.N_told (Kd.N_told (Kd.N_old (by refine zrN ?_;exact HO847.1) hb) (Kd.R_base ho0)) (Kd.R_base (Kd.S_R ho1))) (fun _ h_=>h_.1));have n7_:=zM (Kd.R_lower (Kd.R_new' (Kd.R_new' (Kd.R_new' (Kd.R_new' (Kd.R_new' ho0 (Kd.R_lt (zR HO828.1))) (Kd.R_lt (zR HO834.1))) (Kd.R_lt (zR HO837.1))) (Kd.R_lt (zR HO840.1))) (Kd.R_lt (zR HO844.1))) (below_size zB0));have n8_:=zM (Kd.N_lower (Kd.N_mono (ok':=fun k_=>some k_≠(v851:Value).ownBlock∧some k_≠(.slice Ao13 t826.length co13:Value).ownBlock∧some k_≠(.slice Ao14 t829.length co14:Value).ownBlock∧some k_≠(.slice Ao15 t832.length co15:Value).ownBlock∧some k_≠(.slice Ao10 t835.length co10:Value).ownBlock∧some k_≠(.slice Ao12 t838.length co12:Value).ownBlock∧some k_≠(v843:Value).ownBlock∧some k_≠(v846:Value).ownBlock∧k_≠gb841) (Kd.S_N (Kd.S_bound ho1)) (fun k_ hk_=>⟨hk_.1,(Kd.fresh' (Kd.R_lt (zR HO828.1)) k_ hk_.2.1),(Kd.fresh' (Kd.N_lt (by refine zrN ?_;exact HO831.1)) k_ hk_.2.1),(Kd.fresh' (Kd.R_lt (zR HO834.1)) k_ hk_.2.1),(Kd.fresh' (Kd.R_lt (zR HO837.1)) k_ hk_.2.1),(Kd.fresh' (Kd.R_lt (zR HO840.1)) k_ hk_.2.1),(Kd.fresh' (Kd.R_lt (zR HO844.1)) k_ hk_.2.1),(Kd.fresh' (Kd.N_lt (by refine zrN ?_;exact HO847.1)) k_ hk_.2.1),(Kd.freshB (g:=gb841) (o:= .cells #[.slice Ao10 t835.length co10,.slice Ao12 t838.length co12] 27 (0,0)) (zK BK841.1) k_ hk_.2.1)⟩)) (below_size zB0));have n9_:=zM (zb BK841.1 hb);have n10_:=zM (below_step zB0 hb);clear HO828;clear HO831;clear HO834;clear HO837;clear HO840;clear HO844;clear HO847;clear BK841;clear HB;have HO828:=n0_;have HO831:=n1_;have HO834:=n2_;have HO837:=n3_;have HO840:=n4_;have HO844:=n5_;have HO847:=n6_;have HO852:=n7_;have HO855:=n8_;have BK841:=n9_;have HB:=n10_;clear n0_ n1_ n2_ n3_ n4_ n5_ n6_ n7_ n8_ n9_ n10_;clear hb ho0 ho1)))
 (try simp only [Act.put,List.setIfInBounds_toArray,List.set_cons_zero,List.set_cons_succ])
 go_cut [54] (fun v54 wc=>∃(kq:Nat) (x54_6:Bool),v54= .bool x54_6∧Aside0 (laws_FnStops.j0 kq t826 t829 t832 t845 t848 t849 x54_6 t835 t838=some r)∧Aside0 (kq≤k)∧Aside0 (Kd.R (Kd.int .i64) 3 wc w.heap.size (fun k_=>some k_≠((.slice Ao15 t832.length co15):Value).ownBlock∧some k_≠((.slice Ao10 t835.length co10):Value).ownBlock∧some k_≠((.slice Ao12 t838.length co12):Value).ownBlock) (.slice Ao13 t826.length co13) t826)∧Aside0 (Kd.N k53 53 wc w.heap.size (fun k_=>some k_≠((.slice Ao13 t826.length co13):Value).ownBlock∧some k_≠((.slice Ao15 t832.length co15):Value).ownBlock∧some k_≠(v846:Value).ownBlock∧some k_≠((.slice Ao10 t835.length co10):Value).ownBlock∧some k_≠((.slice Ao12 t838.length co12):Value).ownBlock∧k_≠gb841) (.slice Ao14 t829.length co14) t829)∧Aside0 (Kd.R (Kd.int .i64) 3 wc w.heap.size (fun k_=>some k_≠((.slice Ao13 t826.length co13):Value).ownBlock∧some k_≠((.slice Ao10 t835.length co10):Value).ownBlock∧some k_≠((.slice Ao12 t838.length co12):Value).ownBlock) (.slice Ao15 t832.length co15) t832)∧Aside0 (Kd.N k53 53 wc w.heap.size (fun k_=>some k_≠((.slice Ao13 t826.length co13):Value).ownBlock∧some k_≠((.slice Ao14 t829.length co14):Value).ownBlock∧some k_≠((.slice Ao15 t832.length co15):Value).ownBlock∧some k_≠((.slice Ao10 t835.length co10):Value).ownBlock∧some k_≠((.slice Ao12 t838.length co12):Value).ownBlock∧k_≠gb841) v846 t845)∧Aside0 (Kd.R (Kd.int .i64) 3 wc w.heap.size (fun k_=>some k_≠((.slice Ao13 t826.length co13):Value).ownBlock∧some k_≠((.slice Ao15 t832.length co15):Value).ownBlock∧some k_≠((.slice Ao12 t838.length co12):Value).ownBlock) (.slice Ao10 t835.length co10) t835)∧Aside0 (Kd.R (Kd.int .i64) 3 wc w.heap.size (fun k_=>some k_≠((.slice Ao13 t826.length co13):Value).ownBlock∧some k_≠((.slice Ao15 t832.length co15):Value).ownBlock∧some k_≠((.slice Ao10 t835.length co10):Value).ownBlock) (.slice Ao12 t838.length co12) t838)∧Aside0 (wc.heap[gb841]? =some (.cells #[(.slice Ao10 t835.length co10),(.slice Ao12 t838.length co12)] 27 (0,0)))∧Aside0 (Below w.heap.size w wc))
 case first=>
  have H:=HC7.1
  clear HC7
  by_cases c19:t848=t856
  rotate_left
  ·rw [if_neg c19] at H
   have c19b0:(t848 == t856)=false:=beq_eq_false_iff_ne.mpr c19
   have c19b1:(t848 != t856)=true:=bne_iff_ne.mpr c19
   (first|rw [c19b0]|(simp only [i64_w,i32_w];rw [c19b0])|skip)
   have H':=zM H
   clear H
   go_wp2
   repeat (go_quiet (fail);try go_wp2)
   go_meet
   case rel=>exact ⟨_,(true),zJJ,H',⟨by first|omega|exact Nat.le_refl _⟩,⟨by refine zrR ?_;exact Kd.R_mono HO828.1 (fun _ hk=>⟨hk.1.1.1,⟨hk.1.1.2.1,hk.1.1.2.2⟩⟩)⟩,⟨by refine zrN ?_;exact Kd.N_mono HO831.1 (fun _ hk=>⟨hk.1.1.1.1.1.1,⟨hk.1.1.1.1.1.2.1,⟨hk.1.1.2,⟨hk.1.1.1.1.1.2.2.1,⟨hk.1.1.1.1.1.2.2.2,hk.1.1.1.1.2⟩⟩⟩⟩⟩)⟩,⟨by refine zrR ?_;exact Kd.R_mono HO834.1 (fun _ hk=>⟨hk.1.1.1,⟨hk.1.1.2.1,hk.1.1.2.2⟩⟩)⟩,⟨by refine zrN ?_;exact Kd.N_mono HO847.1 (fun _ hk=>⟨hk.1.1.2.1,⟨hk.1.1.2.2.1,⟨hk.1.1.2.2.2.1,⟨hk.1.1.2.2.2.2.1,⟨hk.1.1.2.2.2.2.2.1,hk.1.1.2.2.2.2.2.2⟩⟩⟩⟩⟩)⟩,⟨by refine zrR ?_;exact Kd.R_mono HO837.1 (fun _ hk=>⟨hk.1.1.1,⟨hk.1.1.2.1,hk.1.1.2.2⟩⟩)⟩,⟨by refine zrR ?_;exact Kd.R_mono HO840.1 (fun _ hk=>⟨hk.1.1.1,⟨hk.1.1.2.1,hk.1.1.2.2⟩⟩)⟩,⟨zK BK841.1⟩,⟨zB0⟩⟩
  rw [if_pos c19] at H
  have c19b0:(t848 == t856)=true:=beq_iff_eq.mpr c19
  have c19b1:(t848 != t856)=false:=bne_eq_false_iff_eq.mpr c19
  clear c19
  (first|rw [c19b0]|(simp only [i64_w,i32_w];rw [c19b0])|skip)
  have H':=zM H
  clear H
  go_wp2
  repeat (go_quiet (fail);try go_wp2)
  go_meet
  case rel=>exact ⟨_,((t849 != t857)),zJJ,H',⟨by first|omega|exact Nat.le_refl _⟩,⟨by refine zrR ?_;exact Kd.R_mono HO828.1 (fun _ hk=>⟨hk.1.1.1,⟨hk.1.1.2.1,hk.1.1.2.2⟩⟩)⟩,⟨by refine zrN ?_;exact Kd.N_mono HO831.1 (fun _ hk=>⟨hk.1.1.1.1.1.1,⟨hk.1.1.1.1.1.2.1,⟨hk.1.1.2,⟨hk.1.1.1.1.1.2.2.1,⟨hk.1.1.1.1.1.2.2.2,hk.1.1.1.1.2⟩⟩⟩⟩⟩)⟩,⟨by refine zrR ?_;exact Kd.R_mono HO834.1 (fun _ hk=>⟨hk.1.1.1,⟨hk.1.1.2.1,hk.1.1.2.2⟩⟩)⟩,⟨by refine zrN ?_;exact Kd.N_mono HO847.1 (fun _ hk=>⟨hk.1.1.2.1,⟨hk.1.1.2.2.1,⟨hk.1.1.2.2.2.1,⟨hk.1.1.2.2.2.2.1,⟨hk.1.1.2.2.2.2.2.1,hk.1.1.2.2.2.2.2.2⟩⟩⟩⟩⟩)⟩,⟨by refine zrR ?_;exact Kd.R_mono HO837.1 (fun _ hk=>⟨hk.1.1.1,⟨hk.1.1.2.1,hk.1.1.2.2⟩⟩)⟩,⟨by refine zrR ?_;exact Kd.R_mono HO840.1 (fun _ hk=>⟨hk.1.1.1,⟨hk.1.1.2.1,hk.1.1.2.2⟩⟩)⟩,⟨zK BK841.1⟩,⟨zB0⟩⟩
 case rest=>
  clear HC7
  obtain ⟨kq,x54_6,rfl,HA,HJ6,HO_3,HO_4,HO_5,HO_8,HO_842000,HO_842001,BK841,HB⟩:=hcut
  cases kq with
  |zero=>exact absurd HA.1 (by simp [laws_FnStops.j0])
  |succ kj6=>
   have H:=HA.1
   clear HA
   simp only [laws_FnStops.j0] at H
   by_cases c20:x54_6=true
   ·subst c20
    rw [if_pos rfl] at H
    obtain rfl:=Option.some.inj H
    go_wp2
    repeat (go_quiet (fail);try go_wp2)
    go_ret
    exact ⟨zE,zB0⟩
   replace c20:=Bool.eq_false_iff.mpr c20
   subst c20
   rw [if_neg zF] at H
   by_cases c21:t849=1
   ·rw [if_pos c21] at H
    have c21b0:(t849 == 1)=true:=beq_iff_eq.mpr c21
    have c21b1:(t849 != 1)=false:=bne_eq_false_iff_eq.mpr c21
    clear c21
    by_cases c22:t848<(t832.length:Int)
    rotate_left
    ·rw [if_neg c22] at H
     have c22b0:=decide_eq_false c22
     clear c22
     obtain rfl:=Option.some.inj H
     go_wp2
     repeat (go_quiet (fail);try go_wp2)
     go_ret
     exact ⟨zE,zB0⟩
    rw [if_pos c22] at H
    have c22b0:=decide_eq_true c22
    clear c22
    replace H:=zIt H
    obtain ⟨c23b0,H⟩:=H
    replace H:=zIt H
    obtain ⟨c24b0,H⟩:=H
    replace H:=zIt H
    obtain ⟨c25b0,H⟩:=H
    replace H:=zO H
    obtain ⟨t860,A26,H⟩:=H
    obtain rfl:=Option.some.inj H
    have hcz27:=zc_2 (w:=wc) BK841.1
    obtain ⟨p858,q858,ad858,e858,hx858_0⟩:=zRd (Kd.at_int (Kd.R_reads' HO_5.1).2.2 t848)
    cases e858
    obtain ⟨Ao28,co28,eo28⟩:=Kd.N_slice HO_8.1
    subst eo28
    obtain ⟨p859,q859,ad859,A859_0,c859_0,e859,hx859_0,hx859_1,hx859_2,hl859_0,hi859_0⟩:=zRd (at_T53 (Kd.N_reads' HO_8.1).2.2 (rd t832 t848))
    cases e859
    obtain ⟨ce859,hce859,hMe859,hcc859⟩:=Kd.N_get HO_8.1 z53 (rd t832 t848) zA (by first|exact zA|(have e_:=(Kd.N_reads' HO_8.1).1;omega))
    obtain ⟨ua859_0,uc859_0,rfl,ul859_0,ge859_0⟩:=k53_openF hMe859
    have hv859_0:=hcc859 0 _ rfl
    rw [Nat.add_zero] at hv859_0
    replace hv859_0:=Option.some.inj (hv859_0.symm.trans hx859_0)
    injection hv859_0 with hva_ hvn_ hvc_
    rw [hva_] at ge859_0
    rw [hvc_] at ul859_0
    have HL859_0:=zM (show Kd.V (Kd.int .i64) 3 _ w.heap.size _ _ ((rd_T53 t845 (rd t832 t848)).f0) from Kd.V_mk ul859_0 ge859_0)
    clear hva_ hvn_ hvc_ ge859_0 ul859_0 hcc859 hce859
    have HR859_0:=zM hi859_0
    have HC859_0:=zM hl859_0
    clear hi859_0 hl859_0
    go_wp2_with (first|(go_at_call 33;(with_reducible refine (laws_within.calls kj6 _ _ t835 ((rd_T53 t845 (rd t832 t848)).f1) t860 _ ?side1 ?side2 A26.1).mono ?_);(case side1=>exact zC (Kd.R_reads' HO_842000.1).2.2);(case side2=>exact (Kd.R_reads' HO_842000.1).2.1);rintro e w' ⟨rfl,⟨nd,rfl⟩⟩;(try first|exact ⟨rfl,_,World.drewN_drewN _ _ _⟩|exact ⟨rfl,_,Eq.trans (World.drewN_drewN _ _ _) (congrArg (World.drewN _) (Nat.add_assoc _ _ _))⟩)))
    repeat (go_quiet (first|(go_at_call 33;(with_reducible refine (laws_within.calls kj6 _ _ t835 ((rd_T53 t845 (rd t832 t848)).f1) t860 _ ?side1 ?side2 A26.1).mono ?_);(case side1=>exact zC (Kd.R_reads' HO_842000.1).2.2);(case side2=>exact (Kd.R_reads' HO_842000.1).2.1);rintro e w' ⟨rfl,⟨nd,rfl⟩⟩;(try first|exact ⟨rfl,_,World.drewN_drewN _ _ _⟩|exact ⟨rfl,_,Eq.trans (World.drewN_drewN _ _ _) (congrArg (World.drewN _) (Nat.add_assoc _ _ _))⟩)));try go_wp2_with (first|(go_at_call 33;(with_reducible refine (laws_within.calls kj6 _ _ t835 ((rd_T53 t845 (rd t832 t848)).f1) t860 _ ?side1 ?side2 A26.1).mono ?_);(case side1=>exact zC (Kd.R_reads' HO_842000.1).2.2);(case side2=>exact (Kd.R_reads' HO_842000.1).2.1);rintro e w' ⟨rfl,⟨nd,rfl⟩⟩;(try first|exact ⟨rfl,_,World.drewN_drewN _ _ _⟩|exact ⟨rfl,_,Eq.trans (World.drewN_drewN _ _ _) (congrArg (World.drewN _) (Nat.add_assoc _ _ _))⟩))))
    go_ret
    exact ⟨zE,zB0⟩
   rw [if_neg c21] at H
   have c21b0:(t849 == 1)=false:=beq_eq_false_iff_ne.mpr c21
   have c21b1:(t849 != 1)=true:=bne_iff_ne.mpr c21
   by_cases c29:t849=0
   ·rw [if_pos c29] at H
    have c29b0:(t849 == 0)=true:=beq_iff_eq.mpr c29
    have c29b1:(t849 != 0)=false:=bne_eq_false_iff_eq.mpr c29
    clear c29
    by_cases c30:t848=(t832.length:Int)
    rotate_left
    ·rw [if_neg c30] at H
     have c30b0:(t848 == (t832.length:Int))=false:=beq_eq_false_iff_ne.mpr c30
     have c30b1:(t848 != (t832.length:Int))=true:=bne_iff_ne.mpr c30
     obtain rfl:=Option.some.inj H
     go_wp2
     repeat (go_quiet (fail);try go_wp2)
     go_ret
     exact ⟨zE,zB0⟩
    rw [if_pos c30] at H
    have c30b0:(t848 == (t832.length:Int))=true:=beq_iff_eq.mpr c30
    have c30b1:(t848 != (t832.length:Int))=false:=bne_eq_false_iff_eq.mpr c30
    clear c30
    obtain rfl:=Option.some.inj H
    go_wp2
    repeat (go_quiet (fail);try go_wp2)
    go_ret
    exact ⟨zE,zB0⟩
   rw [if_neg c29] at H
   have c29b0:(t849 == 0)=false:=beq_eq_false_iff_ne.mpr c29
   have c29b1:(t849 != 0)=true:=bne_iff_ne.mpr c29
   replace H:=zIp H
   obtain ⟨c31,H⟩:=H
   have c31b0:=eq_true c31
   have c31b1:decide (0≤t848)=true:=decide_eq_true c31
   clear c31
   replace H:=zIp H
   obtain ⟨c32,H⟩:=H
   have c32b0:=eq_true c32
   have c32b1:decide (t848≤(t832.length:Int))=true:=decide_eq_true c32
   clear c32
   generalize hy861:((t832.take (t848:Int).toNat):List Int)=y861 at H
   have Ny861:=zM hy861.symm
   clear hy861
   replace H:=zO H
   obtain ⟨t866,A33,H⟩:=H
   by_cases c34:(t866.length:Int)=0
   ·rw [if_pos c34] at H
    have c34b0:((t866.length:Int) == 0)=true:=beq_iff_eq.mpr c34
    have c34b1:((t866.length:Int) != 0)=false:=bne_eq_false_iff_eq.mpr c34
    clear c34
    obtain rfl:=Option.some.inj H
    have q35:(t848:Int)≤((t832.length:Int):Int):=zA
    obtain ⟨i035,hi035,_,hsz35,_⟩:=info_parts info3
    have hroom35:t832.length≤co15:=(Kd.R_reads' HO_5.1).2.1
    have hC35:Kd.F (Kd.int .i64) _ _ Ao15 t832.length t832:=(Kd.V_at (base:=w.heap.size) (Kd.R_V (Kd.R_types (Kd.R_apart' (Kd.R_apart' (HO_5.1) (Kd.N_typed HO_4.1) (by decide)) (Kd.N_typed HO_8.1) (by decide)) BK841.1 (by decide)))).2.2
    have hcut35:=cut_to (P:=Try.prog) 24 3 .i64 Try.underlying24 hi035 Ao15 t832.length co15 t848 zA q35 hroom35
    have hr35:=Kd.F_take (m:=(t848:Int).toNat) hC35 (by omega)
    have hy35:y861.length=(t848:Int).toNat:=(by rw [Ny861.1,List.length_take];omega)
    rw [←Ny861.1] at hr35
    rw [←hy35] at hcut35
    have HO865:=zM (show Kd.V (Kd.int .i64) 3 _ w.heap.size _ (.slice Ao15 y861.length co15) y861 from Kd.V_mk (by omega) hr35)
    have HC865:=zM (show y861.length≤co15 from by omega)
    clear hr35 hC35 hroom35 hi035 hsz35
    have KY35:=zM hy35
    clear hy35
    replace q35:=eq_true q35
    go_wp2_with (first|(go_at_call 34;(with_reducible refine (impl_Trace.calls kj6 _ _ t826 _ _ t829 _ _ y861 t866 _ ?side1 ?side2 ?side3 ?side4 ?side5 ?side6 A33.1).mono ?_);(case side1=>exact zC (Kd.R_reads' HO_3.1).2.2);(case side2=>exact (Kd.R_reads' HO_3.1).2.1);(case side3=>exact zC (Kd.N_reads' HO_4.1).2.2);(case side4=>exact (Kd.N_reads' HO_4.1).2.1);(case side5=>exact zC (Kd.V_reads' HO865.1).2.2);(case side6=>exact (Kd.V_reads' HO865.1).2.1);rintro e w36 ⟨v867,rfl,ho0,hb⟩;have n0_:=zM (Kd.R_below (zR HO_3.1) hb);have n1_:=zM (Kd.N_elder' (by refine zrN ?_;exact HO_4.1) (Kd.R_base ho0) hb);have n2_:=zM (Kd.R_below (zR HO_5.1) hb);have n3_:=zM (Kd.N_elder' (by refine zrN ?_;exact HO_8.1) (Kd.R_base ho0) hb);have n4_:=zM (Kd.R_below (zR HO_842000.1) hb);have n5_:=zM (Kd.R_below (zR HO_842001.1) hb);have n6_:=zM (Kd.V_elder' (by refine zrV ?_;exact HO865.1) (Kd.R_base ho0) hb);have n7_:=zM (Kd.R_lower ho0 (below_size zB0));have n8_:=zM (zb BK841.1 hb);have n9_:=zM (below_step zB0 hb);clear HO_3;clear HO_4;clear HO_5;clear HO_8;clear HO_842000;clear HO_842001;clear HO865;clear BK841;clear HB;have HO_3:=n0_;have HO_4:=n1_;have HO_5:=n2_;have HO_8:=n3_;have HO_842000:=n4_;have HO_842001:=n5_;have HO865:=n6_;have HO868:=n7_;have BK841:=n8_;have HB:=n9_;clear n0_ n1_ n2_ n3_ n4_ n5_ n6_ n7_ n8_ n9_;clear hb ho0;obtain ⟨Ao37,co37,eo37⟩:=Kd.R_slice HO868.1;subst eo37))
    repeat (go_quiet (first|(go_at_call 34;(with_reducible refine (impl_Trace.calls kj6 _ _ t826 _ _ t829 _ _ y861 t866 _ ?side1 ?side2 ?side3 ?side4 ?side5 ?side6 A33.1).mono ?_);(case side1=>exact zC (Kd.R_reads' HO_3.1).2.2);(case side2=>exact (Kd.R_reads' HO_3.1).2.1);(case side3=>exact zC (Kd.N_reads' HO_4.1).2.2);(case side4=>exact (Kd.N_reads' HO_4.1).2.1);(case side5=>exact zC (Kd.V_reads' HO865.1).2.2);(case side6=>exact (Kd.V_reads' HO865.1).2.1);rintro e w36 ⟨v867,rfl,ho0,hb⟩;have n0_:=zM (Kd.R_below (zR HO_3.1) hb);have n1_:=zM (Kd.N_elder' (by refine zrN ?_;exact HO_4.1) (Kd.R_base ho0) hb);have n2_:=zM (Kd.R_below (zR HO_5.1) hb);have n3_:=zM (Kd.N_elder' (by refine zrN ?_;exact HO_8.1) (Kd.R_base ho0) hb);have n4_:=zM (Kd.R_below (zR HO_842000.1) hb);have n5_:=zM (Kd.R_below (zR HO_842001.1) hb);have n6_:=zM (Kd.V_elder' (by refine zrV ?_;exact HO865.1) (Kd.R_base ho0) hb);have n7_:=zM (Kd.R_lower ho0 (below_size zB0));have n8_:=zM (zb BK841.1 hb);have n9_:=zM (below_step zB0 hb);clear HO_3;clear HO_4;clear HO_5;clear HO_8;clear HO_842000;clear HO_842001;clear HO865;clear BK841;clear HB;have HO_3:=n0_;have HO_4:=n1_;have HO_5:=n2_;have HO_8:=n3_;have HO_842000:=n4_;have HO_842001:=n5_;have HO865:=n6_;have HO868:=n7_;have BK841:=n8_;have HB:=n9_;clear n0_ n1_ n2_ n3_ n4_ n5_ n6_ n7_ n8_ n9_;clear hb ho0;obtain ⟨Ao37,co37,eo37⟩:=Kd.R_slice HO868.1;subst eo37));try go_wp2_with (first|(go_at_call 34;(with_reducible refine (impl_Trace.calls kj6 _ _ t826 _ _ t829 _ _ y861 t866 _ ?side1 ?side2 ?side3 ?side4 ?side5 ?side6 A33.1).mono ?_);(case side1=>exact zC (Kd.R_reads' HO_3.1).2.2);(case side2=>exact (Kd.R_reads' HO_3.1).2.1);(case side3=>exact zC (Kd.N_reads' HO_4.1).2.2);(case side4=>exact (Kd.N_reads' HO_4.1).2.1);(case side5=>exact zC (Kd.V_reads' HO865.1).2.2);(case side6=>exact (Kd.V_reads' HO865.1).2.1);rintro e w36 ⟨v867,rfl,ho0,hb⟩;have n0_:=zM (Kd.R_below (zR HO_3.1) hb);have n1_:=zM (Kd.N_elder' (by refine zrN ?_;exact HO_4.1) (Kd.R_base ho0) hb);have n2_:=zM (Kd.R_below (zR HO_5.1) hb);have n3_:=zM (Kd.N_elder' (by refine zrN ?_;exact HO_8.1) (Kd.R_base ho0) hb);have n4_:=zM (Kd.R_below (zR HO_842000.1) hb);have n5_:=zM (Kd.R_below (zR HO_842001.1) hb);have n6_:=zM (Kd.V_elder' (by refine zrV ?_;exact HO865.1) (Kd.R_base ho0) hb);have n7_:=zM (Kd.R_lower ho0 (below_size zB0));have n8_:=zM (zb BK841.1 hb);have n9_:=zM (below_step zB0 hb);clear HO_3;clear HO_4;clear HO_5;clear HO_8;clear HO_842000;clear HO_842001;clear HO865;clear BK841;clear HB;have HO_3:=n0_;have HO_4:=n1_;have HO_5:=n2_;have HO_8:=n3_;have HO_842000:=n4_;have HO_842001:=n5_;have HO865:=n6_;have HO868:=n7_;have BK841:=n8_;have HB:=n9_;clear n0_ n1_ n2_ n3_ n4_ n5_ n6_ n7_ n8_ n9_;clear hb ho0;obtain ⟨Ao37,co37,eo37⟩:=Kd.R_slice HO868.1;subst eo37)))
    go_ret
    exact ⟨zE,zB0⟩
   rw [if_neg c34] at H
   have c34b0:((t866.length:Int) == 0)=false:=beq_eq_false_iff_ne.mpr c34
   have c34b1:((t866.length:Int) != 0)=true:=bne_iff_ne.mpr c34
   have c34b2: ¬(t866=[]):=fun h_=>c34 (by rw [h_];rfl)
   have H':=zM H
   clear H
   have q38:(t848:Int)≤((t832.length:Int):Int):=zA
   obtain ⟨i038,hi038,_,hsz38,_⟩:=info_parts info3
   have hroom38:t832.length≤co15:=(Kd.R_reads' HO_5.1).2.1
   have hC38:Kd.F (Kd.int .i64) _ _ Ao15 t832.length t832:=(Kd.V_at (base:=w.heap.size) (Kd.R_V (Kd.R_types (Kd.R_apart' (Kd.R_apart' (HO_5.1) (Kd.N_typed HO_4.1) (by decide)) (Kd.N_typed HO_8.1) (by decide)) BK841.1 (by decide)))).2.2
   have hcut38:=cut_to (P:=Try.prog) 24 3 .i64 Try.underlying24 hi038 Ao15 t832.length co15 t848 zA q38 hroom38
   have hr38:=Kd.F_take (m:=(t848:Int).toNat) hC38 (by omega)
   have hy38:y861.length=(t848:Int).toNat:=(by rw [Ny861.1,List.length_take];omega)
   rw [←Ny861.1] at hr38
   rw [←hy38] at hcut38
   have HO865:=zM (show Kd.V (Kd.int .i64) 3 _ w.heap.size _ (.slice Ao15 y861.length co15) y861 from Kd.V_mk (by omega) hr38)
   have HC865:=zM (show y861.length≤co15 from by omega)
   clear hr38 hC38 hroom38 hi038 hsz38
   have KY38:=zM hy38
   clear hy38
   replace q38:=eq_true q38
   go_wp2_with (first|(go_at_call 34;(with_reducible refine (impl_Trace.calls kj6 _ _ t826 _ _ t829 _ _ y861 t866 _ ?side1 ?side2 ?side3 ?side4 ?side5 ?side6 A33.1).mono ?_);(case side1=>exact zC (Kd.R_reads' HO_3.1).2.2);(case side2=>exact (Kd.R_reads' HO_3.1).2.1);(case side3=>exact zC (Kd.N_reads' HO_4.1).2.2);(case side4=>exact (Kd.N_reads' HO_4.1).2.1);(case side5=>exact zC (Kd.V_reads' HO865.1).2.2);(case side6=>exact (Kd.V_reads' HO865.1).2.1);rintro e w39 ⟨v867,rfl,ho0,hb⟩;have n0_:=zM (Kd.R_below (zR HO_3.1) hb);have n1_:=zM (Kd.N_elder' (by refine zrN ?_;exact HO_4.1) (Kd.R_base ho0) hb);have n2_:=zM (Kd.R_below (zR HO_5.1) hb);have n3_:=zM (Kd.N_elder' (by refine zrN ?_;exact HO_8.1) (Kd.R_base ho0) hb);have n4_:=zM (Kd.R_below (zR HO_842000.1) hb);have n5_:=zM (Kd.R_below (zR HO_842001.1) hb);have n6_:=zM (Kd.V_elder' (by refine zrV ?_;exact HO865.1) (Kd.R_base ho0) hb);have n7_:=zM (Kd.R_lower ho0 (below_size zB0));have n8_:=zM (zb BK841.1 hb);have n9_:=zM (below_step zB0 hb);clear HO_3;clear HO_4;clear HO_5;clear HO_8;clear HO_842000;clear HO_842001;clear HO865;clear BK841;clear HB;have HO_3:=n0_;have HO_4:=n1_;have HO_5:=n2_;have HO_8:=n3_;have HO_842000:=n4_;have HO_842001:=n5_;have HO865:=n6_;have HO868:=n7_;have BK841:=n8_;have HB:=n9_;clear n0_ n1_ n2_ n3_ n4_ n5_ n6_ n7_ n8_ n9_;clear hb ho0;obtain ⟨Ao40,co40,eo40⟩:=Kd.R_slice HO868.1;subst eo40))
   repeat (go_quiet (first|(go_at_call 34;(with_reducible refine (impl_Trace.calls kj6 _ _ t826 _ _ t829 _ _ y861 t866 _ ?side1 ?side2 ?side3 ?side4 ?side5 ?side6 A33.1).mono ?_);(case side1=>exact zC (Kd.R_reads' HO_3.1).2.2);(case side2=>exact (Kd.R_reads' HO_3.1).2.1);(case side3=>exact zC (Kd.N_reads' HO_4.1).2.2);(case side4=>exact (Kd.N_reads' HO_4.1).2.1);(case side5=>exact zC (Kd.V_reads' HO865.1).2.2);(case side6=>exact (Kd.V_reads' HO865.1).2.1);rintro e w39 ⟨v867,rfl,ho0,hb⟩;have n0_:=zM (Kd.R_below (zR HO_3.1) hb);have n1_:=zM (Kd.N_elder' (by refine zrN ?_;exact HO_4.1) (Kd.R_base ho0) hb);have n2_:=zM (Kd.R_below (zR HO_5.1) hb);have n3_:=zM (Kd.N_elder' (by refine zrN ?_;exact HO_8.1) (Kd.R_base ho0) hb);have n4_:=zM (Kd.R_below (zR HO_842000.1) hb);have n5_:=zM (Kd.R_below (zR HO_842001.1) hb);have n6_:=zM (Kd.V_elder' (by refine zrV ?_;exact HO865.1) (Kd.R_base ho0) hb);have n7_:=zM (Kd.R_lower ho0 (below_size zB0));have n8_:=zM (zb BK841.1 hb);have n9_:=zM (below_step zB0 hb);clear HO_3;clear HO_4;clear HO_5;clear HO_8;clear HO_842000;clear HO_842001;clear HO865;clear BK841;clear HB;have HO_3:=n0_;have HO_4:=n1_;have HO_5:=n2_;have HO_8:=n3_;have HO_842000:=n4_;have HO_842001:=n5_;have HO865:=n6_;have HO868:=n7_;have BK841:=n8_;have HB:=n9_;clear n0_ n1_ n2_ n3_ n4_ n5_ n6_ n7_ n8_ n9_;clear hb ho0;obtain ⟨Ao40,co40,eo40⟩:=Kd.R_slice HO868.1;subst eo40));try go_wp2_with (first|(go_at_call 34;(with_reducible refine (impl_Trace.calls kj6 _ _ t826 _ _ t829 _ _ y861 t866 _ ?side1 ?side2 ?side3 ?side4 ?side5 ?side6 A33.1).mono ?_);(case side1=>exact zC (Kd.R_reads' HO_3.1).2.2);(case side2=>exact (Kd.R_reads' HO_3.1).2.1);(case side3=>exact zC (Kd.N_reads' HO_4.1).2.2);(case side4=>exact (Kd.N_reads' HO_4.1).2.1);(case side5=>exact zC (Kd.V_reads' HO865.1).2.2);(case side6=>exact (Kd.V_reads' HO865.1).2.1);rintro e w39 ⟨v867,rfl,ho0,hb⟩;have n0_:=zM (Kd.R_below (zR HO_3.1) hb);have n1_:=zM (Kd.N_elder' (by refine zrN ?_;exact HO_4.1) (Kd.R_base ho0) hb);have n2_:=zM (Kd.R_below (zR HO_5.1) hb);have n3_:=zM (Kd.N_elder' (by refine zrN ?_;exact HO_8.1) (Kd.R_base ho0) hb);have n4_:=zM (Kd.R_below (zR HO_842000.1) hb);have n5_:=zM (Kd.R_below (zR HO_842001.1) hb);have n6_:=zM (Kd.V_elder' (by refine zrV ?_;exact HO865.1) (Kd.R_base ho0) hb);have n7_:=zM (Kd.R_lower ho0 (below_size zB0));have n8_:=zM (zb BK841.1 hb);have n9_:=zM (below_step zB0 hb);clear HO_3;clear HO_4;clear HO_5;clear HO_8;clear HO_842000;clear HO_842001;clear HO865;clear BK841;clear HB;have HO_3:=n0_;have HO_4:=n1_;have HO_5:=n2_;have HO_8:=n3_;have HO_842000:=n4_;have HO_842001:=n5_;have HO865:=n6_;have HO868:=n7_;have BK841:=n8_;have HB:=n9_;clear n0_ n1_ n2_ n3_ n4_ n5_ n6_ n7_ n8_ n9_;clear hb ho0;obtain ⟨Ao40,co40,eo40⟩:=Kd.R_slice HO868.1;subst eo40)))
   go_loopg [16] kj6 (fun kq v16 w'=>∃(x16_2:Int),v16= .int .i64 x16_2∧Aside0 (laws_FnStops.l0 kq t866 x16_2 t835 t838=some r)∧Aside0 (kq≤kj6)∧Aside0 (Kd.R k57 57 w' w.heap.size (fun _=>True) (.slice Ao40 t866.length co40) t866)∧Aside0 (Kd.R (Kd.int .i64) 3 w' w.heap.size (fun k_=>some k_≠((.slice Ao12 t838.length co12):Value).ownBlock) (.slice Ao10 t835.length co10) t835)∧Aside0 (Kd.R (Kd.int .i64) 3 w' w.heap.size (fun k_=>some k_≠((.slice Ao10 t835.length co10):Value).ownBlock) (.slice Ao12 t838.length co12) t838)∧Aside0 (w'.heap[gb841]? =some (.cells #[(.slice Ao10 t835.length co10),(.slice Ao12 t838.length co12)] 27 (0,0)))∧Aside0 (Below w.heap.size w w'))
   case atStart=>exact ⟨(0),zJJ,H',⟨Nat.le_refl _⟩,⟨zR HO868.1⟩,⟨by refine zrR ?_;exact Kd.R_mono HO_842000.1 (fun _ hk=>hk.2.2)⟩,⟨by refine zrR ?_;exact Kd.R_mono HO_842001.1 (fun _ hk=>hk.2.2)⟩,⟨zK BK841.1⟩,⟨zB0⟩⟩
   case round=>
    clear H'
    obtain ⟨x16_2,rfl,HA,HK2,HO_15,HO_842000,HO_842001,BK841,HB⟩:=hrel
    cases gk with
    |zero=>exact absurd HA.1 (by simp [laws_FnStops.l0])
    |succ k2=>
     have H:=HA.1
     clear HA
     simp only [laws_FnStops.l0] at H
     by_cases c41:(wrap64 (x16_2+1))<(t866.length:Int)
     ·rw [if_pos c41] at H
      have c41b0:=decide_eq_true c41
      clear c41
      replace H:=zIt H
      obtain ⟨c42b0,H⟩:=H
      replace H:=zIt H
      obtain ⟨c43b0,H⟩:=H
      by_cases c44:((rd_T57 t866 x16_2).f4)≥0
      rotate_left
      ·rw [if_neg c44] at H
       have c44b0:=decide_eq_false c44
       clear c44
       have H':=zM H
       clear H
       obtain ⟨p869,q869,ad869,e869,hx869_0,hx869_1,hx869_2,hx869_3,hx869_4⟩:=zRd (at_T57 (Kd.R_reads' HO_15.1).2.2 x16_2)
       cases e869
       go_wp2
       repeat (go_quiet (fail);try go_wp2)
       go_roundg k2
       case measure=>have:=HJ6.1;have:=HK2.1;omega
       case rel=>exact ⟨(wrap64 (x16_2+1)),zJJ,H',⟨by have:=HJ6.1;have:=HK2.1;omega⟩,⟨zR HO_15.1⟩,⟨zR HO_842000.1⟩,⟨zR HO_842001.1⟩,⟨zK BK841.1⟩,⟨zB0⟩⟩
      rw [if_pos c44] at H
      have c44b0:=decide_eq_true c44
      clear c44
      replace H:=zO H
      obtain ⟨t871,A45,H⟩:=H
      by_cases c46:t871=true
      ·subst c46
       rw [if_pos rfl] at H
       obtain rfl:=Option.some.inj H
       obtain ⟨p869,q869,ad869,e869,hx869_0,hx869_1,hx869_2,hx869_3,hx869_4⟩:=zRd (at_T57 (Kd.R_reads' HO_15.1).2.2 x16_2)
       cases e869
       have hcz47:=zc_2 (w:=wr) BK841.1
       obtain ⟨p870,q870,ad870,e870,hx870_0,hx870_1,hx870_2,hx870_3,hx870_4⟩:=zRd (at_T57 (Kd.R_reads' HO_15.1).2.2 x16_2)
       obtain rfl:ad869=ad870:=(by injection e870)
       go_wp2_with (first|(go_at_call 33;(with_reducible refine (laws_within.calls k2 _ _ t838 ((rd_T57 t866 x16_2).f2) true _ ?side1 ?side2 A45.1).mono ?_);(case side1=>exact zC (Kd.R_reads' HO_842001.1).2.2);(case side2=>exact (Kd.R_reads' HO_842001.1).2.1);rintro e w' ⟨rfl,⟨nd,rfl⟩⟩;(try first|exact ⟨rfl,_,World.drewN_drewN _ _ _⟩|exact ⟨rfl,_,Eq.trans (World.drewN_drewN _ _ _) (congrArg (World.drewN _) (Nat.add_assoc _ _ _))⟩)))
       repeat (go_quiet (first|(go_at_call 33;(with_reducible refine (laws_within.calls k2 _ _ t838 ((rd_T57 t866 x16_2).f2) true _ ?side1 ?side2 A45.1).mono ?_);(case side1=>exact zC (Kd.R_reads' HO_842001.1).2.2);(case side2=>exact (Kd.R_reads' HO_842001.1).2.1);rintro e w' ⟨rfl,⟨nd,rfl⟩⟩;(try first|exact ⟨rfl,_,World.drewN_drewN _ _ _⟩|exact ⟨rfl,_,Eq.trans (World.drewN_drewN _ _ _) (congrArg (World.drewN _) (Nat.add_assoc _ _ _))⟩)));try go_wp2_with (first|(go_at_call 33;(with_reducible refine (laws_within.calls k2 _ _ t838 ((rd_T57 t866 x16_2).f2) true _ ?side1 ?side2 A45.1).mono ?_);(case side1=>exact zC (Kd.R_reads' HO_842001.1).2.2);(case side2=>exact (Kd.R_reads' HO_842001.1).2.1);rintro e w' ⟨rfl,⟨nd,rfl⟩⟩;(try first|exact ⟨rfl,_,World.drewN_drewN _ _ _⟩|exact ⟨rfl,_,Eq.trans (World.drewN_drewN _ _ _) (congrArg (World.drewN _) (Nat.add_assoc _ _ _))⟩))))
       go_ret
       exact ⟨zE,zB0⟩
      replace c46:=Bool.eq_false_iff.mpr c46
      subst c46
      rw [if_neg zF] at H
      have H':=zM H
      clear H
      obtain ⟨p869,q869,ad869,e869,hx869_0,hx869_1,hx869_2,hx869_3,hx869_4⟩:=zRd (at_T57 (Kd.R_reads' HO_15.1).2.2 x16_2)
      cases e869
      have hcz48:=zc_2 (w:=wr) BK841.1
      obtain ⟨p870,q870,ad870,e870,hx870_0,hx870_1,hx870_2,hx870_3,hx870_4⟩:=zRd (at_T57 (Kd.R_reads' HO_15.1).2.2 x16_2)
      obtain rfl:ad869=ad870:=(by injection e870)
      go_wp2_with (first|(go_at_call 33;(with_reducible refine (laws_within.calls k2 _ _ t838 ((rd_T57 t866 x16_2).f2) false _ ?side1 ?side2 A45.1).mono ?_);(case side1=>exact zC (Kd.R_reads' HO_842001.1).2.2);(case side2=>exact (Kd.R_reads' HO_842001.1).2.1);rintro e w' ⟨rfl,⟨nd,rfl⟩⟩;(try first|exact ⟨rfl,_,World.drewN_drewN _ _ _⟩|exact ⟨rfl,_,Eq.trans (World.drewN_drewN _ _ _) (congrArg (World.drewN _) (Nat.add_assoc _ _ _))⟩)))
      repeat (go_quiet (first|(go_at_call 33;(with_reducible refine (laws_within.calls k2 _ _ t838 ((rd_T57 t866 x16_2).f2) false _ ?side1 ?side2 A45.1).mono ?_);(case side1=>exact zC (Kd.R_reads' HO_842001.1).2.2);(case side2=>exact (Kd.R_reads' HO_842001.1).2.1);rintro e w' ⟨rfl,⟨nd,rfl⟩⟩;(try first|exact ⟨rfl,_,World.drewN_drewN _ _ _⟩|exact ⟨rfl,_,Eq.trans (World.drewN_drewN _ _ _) (congrArg (World.drewN _) (Nat.add_assoc _ _ _))⟩)));try go_wp2_with (first|(go_at_call 33;(with_reducible refine (laws_within.calls k2 _ _ t838 ((rd_T57 t866 x16_2).f2) false _ ?side1 ?side2 A45.1).mono ?_);(case side1=>exact zC (Kd.R_reads' HO_842001.1).2.2);(case side2=>exact (Kd.R_reads' HO_842001.1).2.1);rintro e w' ⟨rfl,⟨nd,rfl⟩⟩;(try first|exact ⟨rfl,_,World.drewN_drewN _ _ _⟩|exact ⟨rfl,_,Eq.trans (World.drewN_drewN _ _ _) (congrArg (World.drewN _) (Nat.add_assoc _ _ _))⟩))))
      go_roundg k2
      case measure=>have:=HJ6.1;have:=HK2.1;omega
      case rel=>exact ⟨(wrap64 (x16_2+1)),zJJ,H',⟨by have:=HJ6.1;have:=HK2.1;omega⟩,⟨zR HO_15.1⟩,⟨zR HO_842000.1⟩,⟨zR HO_842001.1⟩,⟨zK BK841.1⟩,⟨zB0⟩⟩
     rw [if_neg c41] at H
     have c41b0:=decide_eq_false c41
     clear c41
     obtain ⟨ji49,hji49⟩: ∃j_:Int,(wrap64 ((t866.length:Int)-1))=j_:=⟨_,rfl⟩
     replace H:(if 0≤(ji49) then (if (ji49)<(t866.length:Int) then (if ((rd_T57 t866 (ji49)).f4)≥0 then ((laws_within.f k2 t838 ((rd_T57 t866 (ji49)).f2)).bind fun t874=>(some t874)) else (some false)) else (none)) else (none))=some r:=by first|(rw [hji49] at H;exact H)|(simp only [hji49] at H ⊢;exact H)
     have hji49w:(IntKind.i64.wrap ((t866.length:Int)-1))=ji49:=(i64_w _).trans hji49
     replace H:=zIt H
     obtain ⟨c50b0,H⟩:=H
     replace H:=zIt H
     obtain ⟨c51b0,H⟩:=H
     by_cases c52:((rd_T57 t866 (ji49)).f4)≥0
     rotate_left
     ·rw [if_neg c52] at H
      have c52b0:=decide_eq_false c52
      clear c52
      obtain rfl:=Option.some.inj H
      obtain ⟨p872,q872,ad872,e872,hx872_0,hx872_1,hx872_2,hx872_3,hx872_4⟩:=zRd (at_T57 (Kd.R_reads' HO_15.1).2.2 (ji49))
      cases e872
      go_wp2_with (first|((with_reducible refine zBx 17 57 #[.int .i64 0,.int .i64 0,.int .i64 0,.int .i64 0,.int .i64 0] ?_);intro gb873 hg w58 hbox hb;replace HO_15:=zM (Kd.R_below (Kd.R_elderB (zR HO_15.1) gb873 (Nat.le_of_eq hg.symm)) hb);replace HO_842000:=zM (Kd.R_below (zR HO_842000.1) hb);replace HO_842001:=zM (Kd.R_below (zR HO_842001.1) hb);have BK873:=zM hbox;have GW873:=zM (zW hg (below_size zB0));have GE873:=zM (zW hg (below_size zB0));replace HB:=zM (below_step zB0 hb);have NB841_873:=zM ((zn BK841.1 hg:gb841≠gb873));have NB873_841:=zM ((zm BK841.1 hg:gb873≠gb841));replace BK841:=zM (zb BK841.1 hb);clear hb hbox hg;have hnb59:=NB873_841.1;have hnc59:=NB841_873.1;have hcz60:=zc_5 (w:=w58) BK873.1))
      repeat (go_quiet (first|((with_reducible refine zBx 17 57 #[.int .i64 0,.int .i64 0,.int .i64 0,.int .i64 0,.int .i64 0] ?_);intro gb873 hg w58 hbox hb;replace HO_15:=zM (Kd.R_below (Kd.R_elderB (zR HO_15.1) gb873 (Nat.le_of_eq hg.symm)) hb);replace HO_842000:=zM (Kd.R_below (zR HO_842000.1) hb);replace HO_842001:=zM (Kd.R_below (zR HO_842001.1) hb);have BK873:=zM hbox;have GW873:=zM (zW hg (below_size zB0));have GE873:=zM (zW hg (below_size zB0));replace HB:=zM (below_step zB0 hb);have NB841_873:=zM ((zn BK841.1 hg:gb841≠gb873));have NB873_841:=zM ((zm BK841.1 hg:gb873≠gb841));replace BK841:=zM (zb BK841.1 hb);clear hb hbox hg;have hnb59:=NB873_841.1;have hnc59:=NB841_873.1;have hcz60:=zc_5 (w:=w58) BK873.1));try go_wp2_with (first|((with_reducible refine zBx 17 57 #[.int .i64 0,.int .i64 0,.int .i64 0,.int .i64 0,.int .i64 0] ?_);intro gb873 hg w58 hbox hb;replace HO_15:=zM (Kd.R_below (Kd.R_elderB (zR HO_15.1) gb873 (Nat.le_of_eq hg.symm)) hb);replace HO_842000:=zM (Kd.R_below (zR HO_842000.1) hb);replace HO_842001:=zM (Kd.R_below (zR HO_842001.1) hb);have BK873:=zM hbox;have GW873:=zM (zW hg (below_size zB0));have GE873:=zM (zW hg (below_size zB0));replace HB:=zM (below_step zB0 hb);have NB841_873:=zM ((zn BK841.1 hg:gb841≠gb873));have NB873_841:=zM ((zm BK841.1 hg:gb873≠gb841));replace BK841:=zM (zb BK841.1 hb);clear hb hbox hg;have hnb59:=NB873_841.1;have hnc59:=NB841_873.1;have hcz60:=zc_5 (w:=w58) BK873.1)))
      go_ret
      exact ⟨by first|rfl|(simp [errW_none,errW_some]<;>rfl)|(simp only [←hji49];first|rfl|(simp [errW_none,errW_some]<;>rfl))|(simp [*,errW_none,errW_some]<;>rfl),zB0⟩
     rw [if_pos c52] at H
     have c52b0:=decide_eq_true c52
     clear c52
     replace H:=zO H
     obtain ⟨t874,A53,H⟩:=H
     obtain rfl:=Option.some.inj H
     obtain ⟨p872,q872,ad872,e872,hx872_0,hx872_1,hx872_2,hx872_3,hx872_4⟩:=zRd (at_T57 (Kd.R_reads' HO_15.1).2.2 (ji49))
     cases e872
     go_wp2_with (first|((with_reducible refine zBx 17 57 #[.int .i64 0,.int .i64 0,.int .i64 0,.int .i64 0,.int .i64 0] ?_);intro gb873 hg w54 hbox hb;replace HO_15:=zM (Kd.R_below (Kd.R_elderB (zR HO_15.1) gb873 (Nat.le_of_eq hg.symm)) hb);replace HO_842000:=zM (Kd.R_below (zR HO_842000.1) hb);replace HO_842001:=zM (Kd.R_below (zR HO_842001.1) hb);have BK873:=zM hbox;have GW873:=zM (zW hg (below_size zB0));have GE873:=zM (zW hg (below_size zB0));replace HB:=zM (below_step zB0 hb);have NB841_873:=zM ((zn BK841.1 hg:gb841≠gb873));have NB873_841:=zM ((zm BK841.1 hg:gb873≠gb841));replace BK841:=zM (zb BK841.1 hb);clear hb hbox hg;have hnb55:=NB873_841.1;have hnc55:=NB841_873.1;have hcz56:=zc_5 (w:=w54) BK873.1;have hcz57:=zc_2 (w:=w54) BK841.1)|(go_at_call 33;(with_reducible refine (laws_within.calls k2 _ _ t838 ((rd_T57 t866 (ji49)).f2) t874 _ ?side1 ?side2 A53.1).mono ?_);(case side1=>refine (Kd.R_reads' (e:=3) (base:=w.heap.size) (ok:=fun k_=>some k_≠(.slice Ao10 t835.length co10:Value).ownBlock) (n:=t838.length) (c:=co12) ?_).2.2;exact (by refine zrR ?_;exact (Kd.R_mono (zfR (zfR (zfR (zfR (zfR (Kd.R_types HO_842001.1 BK873.1 (by decide))))))) (fun _ h_=>h_.1))));(case side2=>exact (Kd.R_reads' HO_842001.1).2.1);rintro e w' ⟨rfl,⟨nd,rfl⟩⟩;(try first|exact ⟨rfl,_,World.drewN_drewN _ _ _⟩|exact ⟨rfl,_,Eq.trans (World.drewN_drewN _ _ _) (congrArg (World.drewN _) (Nat.add_assoc _ _ _))⟩)))
     repeat (go_quiet (first|((with_reducible refine zBx 17 57 #[.int .i64 0,.int .i64 0,.int .i64 0,.int .i64 0,.int .i64 0] ?_);intro gb873 hg w54 hbox hb;replace HO_15:=zM (Kd.R_below (Kd.R_elderB (zR HO_15.1) gb873 (Nat.le_of_eq hg.symm)) hb);replace HO_842000:=zM (Kd.R_below (zR HO_842000.1) hb);replace HO_842001:=zM (Kd.R_below (zR HO_842001.1) hb);have BK873:=zM hbox;have GW873:=zM (zW hg (below_size zB0));have GE873:=zM (zW hg (below_size zB0));replace HB:=zM (below_step zB0 hb);have NB841_873:=zM ((zn BK841.1 hg:gb841≠gb873));have NB873_841:=zM ((zm BK841.1 hg:gb873≠gb841));replace BK841:=zM (zb BK841.1 hb);clear hb hbox hg;have hnb55:=NB873_841.1;have hnc55:=NB841_873.1;have hcz56:=zc_5 (w:=w54) BK873.1;have hcz57:=zc_2 (w:=w54) BK841.1)|(go_at_call 33;(with_reducible refine (laws_within.calls k2 _ _ t838 ((rd_T57 t866 (ji49)).f2) t874 _ ?side1 ?side2 A53.1).mono ?_);(case side1=>refine (Kd.R_reads' (e:=3) (base:=w.heap.size) (ok:=fun k_=>some k_≠(.slice Ao10 t835.length co10:Value).ownBlock) (n:=t838.length) (c:=co12) ?_).2.2;exact (by refine zrR ?_;exact (Kd.R_mono (zfR (zfR (zfR (zfR (zfR (Kd.R_types HO_842001.1 BK873.1 (by decide))))))) (fun _ h_=>h_.1))));(case side2=>exact (Kd.R_reads' HO_842001.1).2.1);rintro e w' ⟨rfl,⟨nd,rfl⟩⟩;(try first|exact ⟨rfl,_,World.drewN_drewN _ _ _⟩|exact ⟨rfl,_,Eq.trans (World.drewN_drewN _ _ _) (congrArg (World.drewN _) (Nat.add_assoc _ _ _))⟩)));try go_wp2_with (first|((with_reducible refine zBx 17 57 #[.int .i64 0,.int .i64 0,.int .i64 0,.int .i64 0,.int .i64 0] ?_);intro gb873 hg w54 hbox hb;replace HO_15:=zM (Kd.R_below (Kd.R_elderB (zR HO_15.1) gb873 (Nat.le_of_eq hg.symm)) hb);replace HO_842000:=zM (Kd.R_below (zR HO_842000.1) hb);replace HO_842001:=zM (Kd.R_below (zR HO_842001.1) hb);have BK873:=zM hbox;have GW873:=zM (zW hg (below_size zB0));have GE873:=zM (zW hg (below_size zB0));replace HB:=zM (below_step zB0 hb);have NB841_873:=zM ((zn BK841.1 hg:gb841≠gb873));have NB873_841:=zM ((zm BK841.1 hg:gb873≠gb841));replace BK841:=zM (zb BK841.1 hb);clear hb hbox hg;have hnb55:=NB873_841.1;have hnc55:=NB841_873.1;have hcz56:=zc_5 (w:=w54) BK873.1;have hcz57:=zc_2 (w:=w54) BK841.1)|(go_at_call 33;(with_reducible refine (laws_within.calls k2 _ _ t838 ((rd_T57 t866 (ji49)).f2) t874 _ ?side1 ?side2 A53.1).mono ?_);(case side1=>refine (Kd.R_reads' (e:=3) (base:=w.heap.size) (ok:=fun k_=>some k_≠(.slice Ao10 t835.length co10:Value).ownBlock) (n:=t838.length) (c:=co12) ?_).2.2;exact (by refine zrR ?_;exact (Kd.R_mono (zfR (zfR (zfR (zfR (zfR (Kd.R_types HO_842001.1 BK873.1 (by decide))))))) (fun _ h_=>h_.1))));(case side2=>exact (Kd.R_reads' HO_842001.1).2.1);rintro e w' ⟨rfl,⟨nd,rfl⟩⟩;(try first|exact ⟨rfl,_,World.drewN_drewN _ _ _⟩|exact ⟨rfl,_,Eq.trans (World.drewN_drewN _ _ _) (congrArg (World.drewN _) (Nat.add_assoc _ _ _))⟩))))
     go_ret
     exact ⟨by first|rfl|(simp [errW_none,errW_some]<;>rfl)|(simp only [←hji49];first|rfl|(simp [errW_none,errW_some]<;>rfl))|(simp [*,errW_none,errW_some]<;>rfl),zB0⟩

/-- THE ONE PURE STATEMENT of laws_FnStops: yours. -/
def laws_FnStops.Pure:Prop:=∀(l0:List Int),l0.length≤maxLen→l0.length*1≤140737488351232→(∀x∈l0,(Lit.int .u8 x).wf=true)→∃k,laws_FnStops.f k l0=some true
theorem laws_FnStops.walk (P:laws_FnStops.Pure) (a0:Option Addr) (len0 cap0:Nat) (z0:List Int) (w:World) (w0:(a0=none∧len0=0∧cap0=0∧z0=[])∨∃x,a0=some x∧len0≤cap0∧cap0≤maxLen∧z0.length=cap0∧(∀i,i<z0.length→w.cell? (x.add i)=some (.int .u8 (z0.getD i 0)))∧∀n∈z0,(Lit.int .u8 n).wf=true) (y0:len0*1≤140737488351232):
  Calls Try.prog 5 #[.slice a0 len0 cap0] w fun e w'=>e= .returned (.bool true)∧Below w.heap.size w w':=by
 obtain ⟨l0,rfl,hr0,hm0,hw0,hc0⟩:=ReadsInt.ofRowC w0
 obtain ⟨k,h⟩:=P l0 hm0 y0 hw0
 refine (laws_FnStops.calls k _ _ l0 true w (Kd.C_of_reads (d:=(0:Int)) (h1:=fun _=>rfl) hr0) hc0 h).mono ?_
 rintro e w' ⟨rfl,hd⟩
 exact ⟨rfl,hd⟩

end Go.Proofs.Ytpcgecacaemalaa.PFnStops
