-- made by wip/tools/myprint.py out of the seat's translation
import Derived.Test.YtaakcbgpmabaaaaPFnSeenx0
import Derived.Test.YtaakcbgpmabaaaaPFnSeenx2
import Derived.Test.YtaakcbgpmabaaaaPFnSeenx5
import Derived.Test.YtaakcbgpmabaaaaPFnSeenx10
import Derived.Test.YtaakcbgpmabaaaaPFnSeenx11
import Derived.Test.YtaakcbgpmabaaaaPFnSeenx16
import Derived.Test.YtaakcbgpmabaaaaPFnSeenx17
import Derived.Test.YtaakcbgpmabaaaaPFnSeenx19
import Derived.Test.YtaakcbgpmabaaaaPFnSeenx20
namespace Go.Proofs.Ytaakcbgpmabaaaa.PFnSeen
open Go.RowKit Go.Proofs.YtaakcbgpmabaaaaW.PrintWords Go.Proofs.YtaakcbgpmabaaaaW.PrintLast Go.Proofs.YtaakcbgpmabaaaaW.PrintMore
attribute [local go_sem] max2_int min2_int max_two min_two max_three min_three max_four min_four -- for this text's walks alone
set_option linter.unusedVariables false
set_option linter.unusedSimpArgs false
set_option maxHeartbeats 8000000
set_option maxRecDepth 100000
abbrev zq21_0:Array Bool:=#[false,false,false,false,false,false,false,false,false,false,false,false,false,false,false,false,false,false,false,false,false]

/-! ### laws_FnSeen: function 3 -/
mutual
def laws_FnSeen.j0:Nat→List Int→List Int→List (S72)→List (S74)→Option (Bool)
 |0,_,_,_,_=>none
 |k+1,x0,x3,x4,x6=>(impl_ByHart.f k (x4.length:Int) x6).bind fun t939=>((spec_DrawSeqOk.f k x0).bind fun bt942=>((spec_DrawByHart.f k x0).bind fun bt948=>((spec_DrawDidText.f k x0).bind fun bt952=>((impl_ByHart.f k bt948.1 bt948.2).bind fun t956=>((spec_ByHart.f k bt948.1 bt948.2).bind fun t959=>((impl_SeqOk.f k bt942.1 bt942.2).bind fun t962=>((spec_SeqOk.f k bt942.1 bt942.2).bind fun t963=>(if (t962 != t963)=true then (laws_FnSeen.j1 k x3 t939 true) else ((impl_DidText.f k bt952.1 bt952.2.1 bt952.2.2).bind fun t964=>((spec_DidText.f k bt952.1 bt952.2.1 bt952.2.2).bind fun t965=>(if t964.toList=t965.toList then (laws_FnSeen.j1 k x3 t939 ((t956.length:Int) != (t959.length:Int))) else (laws_FnSeen.j1 k x3 t939 true))))))))))))
def laws_FnSeen.j1:Nat→List Int→List (List (S37))→Bool→Option (Bool)
 |0,_,_,_=>none
 |k+1,x3,x7,x77=>if x77=true then (some false) else (laws_FnSeen.l0 k x3 x7 0 0)
def laws_FnSeen.l0:Nat→List Int→List (List (S37))→Int→Int→Option (Bool)
 |0,_,_,_,_=>none
 |k+1,x3,x7,x15,x16=>if x16<(x7.length:Int) then (if 0≤x16 then (laws_FnSeen.l0 k x3 x7 (wrap64 (x15+((rd_L7 x7 x16).length:Int))) (wrap64 (x16+1))) else (none)) else (if x15>12 then (some true) else ((impl_SeqOk.f k x3 x7).bind fun t967=>(if t967=true then (if 3<(x3.length:Int) then (if (rd x3 3)=77 then (some true) else ((impl_SeqOk.f k x3 (([(([(⟨3,77,(-1)⟩:S37)]:List (S37)))]:List (List (S37))))).bind fun t975=>(some (!t975)))) else (none)) else (some false))))
end
def laws_FnSeen.f (k:Nat) (l0:List Int):Option (Bool):=(laws_big.f l0).bind fun t923=>(if t923=true then (some true) else ((spec_DrawSteps.f k l0).bind fun bt924=>((impl_Trace.f k bt924.1 bt924.2.1 bt924.2.2).bind fun t933=>(if (t933.length:Int)>14 then (if 14≤(t933.length:Int) then (laws_FnSeen.j0 k l0 bt924.1 bt924.2.1 (t933.take (14:Int).toNat)) else (none)) else (laws_FnSeen.j0 k l0 bt924.1 bt924.2.1 t933)))))
theorem laws_FnSeen.mono_l: ∀k,(∀y0 y1 y2 y3,LeO (laws_FnSeen.j0 k y0 y1 y2 y3) (laws_FnSeen.j0 (k+1) y0 y1 y2 y3))∧(∀y0 y1 y2,LeO (laws_FnSeen.j1 k y0 y1 y2) (laws_FnSeen.j1 (k+1) y0 y1 y2))∧(∀y0 y1 y2 y3,LeO (laws_FnSeen.l0 k y0 y1 y2 y3) (laws_FnSeen.l0 (k+1) y0 y1 y2 y3))
 |0=>⟨fun _ _ _ _ r h=>by simp [laws_FnSeen.j0] at h,fun _ _ _ r h=>by simp [laws_FnSeen.j1] at h,fun _ _ _ _ r h=>by simp [laws_FnSeen.l0] at h⟩
 |k+1=>by
  obtain ⟨ih0,ih1,ih2⟩:=laws_FnSeen.mono_l k
  refine ⟨?_,?_,?_⟩
  ·intros
   unfold laws_FnSeen.j0
   have mo0:=@impl_ByHart.mono
   have mo1:=@impl_DidText.mono
   have mo2:=@impl_SeqOk.mono
   have mo3:=@impl_Trace.mono
   have mo4:=@spec_ByHart.mono
   have mo5:=@spec_DidText.mono
   have mo6:=@spec_DrawByHart.mono
   have mo7:=@spec_DrawDidText.mono
   have mo8:=@spec_DrawSeqOk.mono
   have mo9:=@spec_DrawSteps.mono
   have mo10:=@spec_SeqOk.mono
   exact zL
  ·intros
   unfold laws_FnSeen.j1
   have mo0:=@impl_ByHart.mono
   have mo1:=@impl_DidText.mono
   have mo2:=@impl_SeqOk.mono
   have mo3:=@impl_Trace.mono
   have mo4:=@spec_ByHart.mono
   have mo5:=@spec_DidText.mono
   have mo6:=@spec_DrawByHart.mono
   have mo7:=@spec_DrawDidText.mono
   have mo8:=@spec_DrawSeqOk.mono
   have mo9:=@spec_DrawSteps.mono
   have mo10:=@spec_SeqOk.mono
   exact zL
  ·intros
   unfold laws_FnSeen.l0
   have mo0:=@impl_ByHart.mono
   have mo1:=@impl_DidText.mono
   have mo2:=@impl_SeqOk.mono
   have mo3:=@impl_Trace.mono
   have mo4:=@spec_ByHart.mono
   have mo5:=@spec_DidText.mono
   have mo6:=@spec_DrawByHart.mono
   have mo7:=@spec_DrawDidText.mono
   have mo8:=@spec_DrawSeqOk.mono
   have mo9:=@spec_DrawSteps.mono
   have mo10:=@spec_SeqOk.mono
   exact zL
theorem laws_FnSeen.mono: ∀a0 k,LeO (laws_FnSeen.f k a0) (laws_FnSeen.f (k+1) a0):=by
 intro a0 k
 obtain ⟨ih0,ih1,ih2⟩:=laws_FnSeen.mono_l k
 unfold laws_FnSeen.f
 have mo0:=@impl_ByHart.mono
 have mo1:=@impl_DidText.mono
 have mo2:=@impl_SeqOk.mono
 have mo3:=@impl_Trace.mono
 have mo4:=@spec_ByHart.mono
 have mo5:=@spec_DidText.mono
 have mo6:=@spec_DrawByHart.mono
 have mo7:=@spec_DrawDidText.mono
 have mo8:=@spec_DrawSeqOk.mono
 have mo9:=@spec_DrawSteps.mono
 have mo10:=@spec_SeqOk.mono
 exact zL
def laws_FnSeen.T12:Bool×List (List Nat×List Nat):=(true,[([],[]),([],[]),([0,1],[0,1]),([],[]),([],[]),([3,4,2],[3,4]),([2,5],[2,5]),([6,5],[6]),([7],[7]),([8,7,7],[7,8]),([7],[7]),([10,9,7],[7,10]),([9,11,7],[7,9,11]),([7,12],[7,12]),([13,11],[13]),([14],[14]),([15,14],[14,15]),([14],[14]),([17,14],[14,17]),([16,18,14],[14,16,18]),([14,19],[14,19])])
def laws_FnSeen.B12:List Nat:=[0,0,3,0,0,31,63,127,255,511,255,2047,4095,8191,16383,32767,65535,32767,163839,524287,1048575]
theorem laws_FnSeen.tab12:rtab .any (opsOf Try.f3 12)=laws_FnSeen.T12:=by kernel_rfl
theorem laws_FnSeen.bits12:waitsOk laws_FnSeen.T12.2 laws_FnSeen.B12=true:=by kernel_rfl
theorem laws_FnSeen.calls (k:Nat) (A0:Option Addr) (c0:Nat) (l0:List Int) (r:Bool) (w:World) (hr0:Kd.C (Kd.int .u8) w A0 l0.length l0) (hc0:l0.length≤c0) (h:laws_FnSeen.f k l0=some r):
  Calls Try.prog 3 #[.slice A0 l0.length c0] w fun e w'=>e= .returned (.bool r)∧Below w.heap.size w w':=by
 have hu37:=Try.underlying37
 have HR0:=zM hr0
 have HC0:=zM hc0
 clear hr0 hc0
 have HB:=zM (Below.refl w.heap.size w)
 unfold laws_FnSeen.f at h
 have H:=h
 clear h
 replace H:=zO H
 obtain ⟨t923,A2,H⟩:=H
 by_cases c3:t923=true
 ·subst c3
  rw [if_pos rfl] at H
  obtain rfl:=Option.some.inj H
  go_enter Try.func3,Try.ntmps3
  go_wp2_with (first|((with_reducible refine zG Try.func5 19 #[.slice A0 l0.length c0] ?_);(with_reducible refine (laws_big.calls _ _ l0 true _ ?side1 ?side2 A2.1).mono ?_);(case side1=>exact zC HR0.1);(case side2=>exact HC0.1);rintro e w' ⟨rfl,⟨nd,rfl⟩⟩;refine ⟨_,rfl,?_⟩))
  go_ret
  exact ⟨zE,zB3⟩
 replace c3:=Bool.eq_false_iff.mpr c3
 subst c3
 rw [if_neg zF] at H
 replace H:=zO H
 obtain ⟨⟨t924,t925,t926⟩,A4,H⟩:=H
 try dsimp only at H
 replace H:=zO H
 obtain ⟨t933,A5,H⟩:=H
 have HC6:=zM H
 clear H
 go_enter Try.func3,Try.ntmps3
 go_upto_if 32 with (first|((with_reducible refine zG Try.func5 19 #[.slice A0 l0.length c0] ?_);(with_reducible refine (laws_big.calls _ _ l0 false _ ?side1 ?side2 A2.1).mono ?_);(case side1=>exact zC HR0.1);(case side2=>exact HC0.1);rintro e w' ⟨rfl,⟨nd,rfl⟩⟩;refine ⟨_,rfl,?_⟩)|((with_reducible refine zG Try.func6 22 #[.slice A0 l0.length c0] ?_);(with_reducible refine (spec_DrawSteps.calls k _ _ l0 t924 t925 t926 _ ?side1 ?side2 A4.1).mono ?_);(case side1=>exact zC HR0.1);(case side2=>exact HC0.1);rintro e w7 ⟨v927,v929,v931,rfl,ho0,ho1,ho2,hb⟩;refine ⟨_,rfl,?_⟩;have HO928:=zM (Kd.R_lower ho0 (below_size zB3));have HO930:=zM (Kd.N_lower (Kd.N_mono (ok':=fun k_=>some k_≠(v927:Value).ownBlock∧some k_≠(v931:Value).ownBlock) (Kd.S_N (Kd.S_bound ho1)) (fun k_ hk_=>⟨hk_.1.1,hk_.1.2⟩)) (below_size zB3));have HO932:=zM (Kd.R_lower ho2 (below_size zB3));replace HB:=zM (below_step zB3 hb);clear hb ho0 ho1 ho2;obtain ⟨Ao8,co8,eo8⟩:=Kd.R_slice HO928.1;subst eo8;obtain ⟨Ao9,co9,eo9⟩:=Kd.N_slice HO930.1;subst eo9;obtain ⟨Ao10,co10,eo10⟩:=Kd.R_slice HO932.1;subst eo10)|((with_reducible refine zG Try.func7 29 #[.slice Ao8 t924.length co8,.slice Ao9 t925.length co9,.slice Ao10 t926.length co10] ?_);(with_reducible refine (impl_Trace.calls k _ _ t924 _ _ t925 _ _ t926 t933 _ ?side1 ?side2 ?side3 ?side4 ?side5 ?side6 A5.1).mono ?_);(case side1=>exact zC (Kd.R_reads' HO928.1).2.2);(case side2=>exact (Kd.R_reads' HO928.1).2.1);(case side3=>exact zC (Kd.N_reads' HO930.1).2.2);(case side4=>exact (Kd.N_reads' HO930.1).2.1);(case side5=>exact zC (Kd.R_reads' HO932.1).2.2);(case side6=>exact (Kd.R_reads' HO932.1).2.1);rintro e w11 ⟨v934,rfl,ho0,hb⟩;refine ⟨_,rfl,?_⟩;replace HO928:=zM (Kd.R_below (zR HO928.1) hb);replace HO930:=zM (Kd.N_elder' (by refine zrN ?_;exact HO930.1) (Kd.R_base ho0) hb);replace HO932:=zM (Kd.R_below (zR HO932.1) hb);have HO935:=zM (Kd.R_lower ho0 (below_size zB3));replace HB:=zM (below_step zB3 hb);clear hb ho0;obtain ⟨Ao12,co12,eo12⟩:=Kd.R_slice HO935.1;subst eo12))
 (try simp only [Act.put,List.setIfInBounds_toArray,List.set_cons_zero,List.set_cons_succ])
 go_cut [6] (fun v6 wc=>∃(kq:Nat) (x6_5:List (S74)),Aside0 (laws_FnSeen.j0 kq l0 t924 t925 x6_5=some r)∧Aside0 (kq≤k)∧Aside0 (Kd.R (Kd.int .i64) 3 wc w.heap.size (fun _=>True) (.slice Ao8 t924.length co8) t924)∧Aside0 (Kd.N k72 72 wc w.heap.size (fun k_=>some k_≠((.slice Ao8 t924.length co8):Value).ownBlock∧some k_≠(v6:Value).ownBlock) (.slice Ao9 t925.length co9) t925)∧Aside0 (Kd.R k74 74 wc w.heap.size (fun _=>True) v6 x6_5)∧Aside0 (Below w.heap.size w wc))
 case first=>
  have H:=HC6.1
  clear HC6
  by_cases c13:(t933.length:Int)>14
  rotate_left
  ·rw [if_neg c13] at H
   have c13b0:=decide_eq_false c13
   have c13b1:decide (14<t933.length)=false:=decide_eq_false (by omega)
   clear c13
   (first|rw [c13b0]|(simp only [i64_w,i32_w];rw [c13b0])|skip)
   have H':=zM H
   clear H
   go_wp2
   go_meet
   case rel=>exact ⟨_,(t933),H',⟨by first|omega|exact Nat.le_refl _⟩,⟨by refine zrR ?_;exact Kd.R_mono HO928.1 (fun _ hk=>trivial)⟩,⟨by refine zrN ?_;exact Kd.N_mono HO930.1 (fun _ hk=>⟨hk.1.1,hk.2⟩)⟩,⟨zR HO935.1⟩,⟨zB3⟩⟩
  rw [if_pos c13] at H
  have c13b0:=decide_eq_true c13
  have c13b1:decide (14<t933.length)=true:=decide_eq_true (by omega)
  clear c13
  (first|rw [c13b0]|(simp only [i64_w,i32_w];rw [c13b0])|skip)
  replace H:=zIp H
  obtain ⟨c14,H⟩:=H
  have c14b0:=eq_true c14
  have c14b1:decide (14≤(t933.length:Int))=true:=decide_eq_true c14
  clear c14
  generalize hy936:((t933.take (14:Int).toNat):List (S74))=y936 at H
  have Ny936:=zM hy936.symm
  clear hy936
  have H':=zM H
  clear H
  have q15:(14:Int)≤((t933.length:Int):Int):=zA
  obtain ⟨i015,hi015,_,hsz15,_⟩:=info_parts info74
  have hcut15:=cut_to (P:=Try.prog) 28 74 .i64 Try.underlying28 hi015 Ao12 t933.length co12 14 (by omega) q15 (Kd.R_reads' HO935.1).2.1
  have hr15:=Kd.R_take (m:=(14:Int).toNat) HO935.1 (by omega)
  have hy15:y936.length=(14:Int).toNat:=(by rw [Ny936.1,List.length_take];omega)
  rw [←Ny936.1] at hr15
  rw [←hy15] at hr15 hcut15
  clear hy15 hi015 hsz15 HO935
  have HO938:=zM hr15
  clear hr15
  replace q15:=eq_true q15
  go_wp2
  go_meet
  case rel=>exact ⟨_,(y936),H',⟨by first|omega|exact Nat.le_refl _⟩,⟨by refine zrR ?_;exact Kd.R_mono HO928.1 (fun _ hk=>trivial)⟩,⟨by refine zrN ?_;exact Kd.N_mono HO930.1 (fun _ hk=>⟨hk.1.1,by have h_:=hk.2;cases Ao12<;>exact h_⟩)⟩,⟨zR HO938.1⟩,⟨zB3⟩⟩
 case rest=>
  clear HC6
  obtain ⟨kq,x6_5,HA,HJ5,HO_3,HO_4,HO_6,HB⟩:=hcut
  cases kq with
  |zero=>exact absurd HA.1 (by simp [laws_FnSeen.j0])
  |succ kj5=>
   have H:=HA.1
   clear HA
   simp only [laws_FnSeen.j0] at H
   replace H:=zO H
   obtain ⟨t939,A16,H⟩:=H
   replace H:=zO H
   obtain ⟨⟨t942,t943⟩,A17,H⟩:=H
   try dsimp only at H
   replace H:=zO H
   obtain ⟨⟨t948,t949⟩,A18,H⟩:=H
   try dsimp only at H
   replace H:=zO H
   obtain ⟨⟨t952,t953,t954⟩,A19,H⟩:=H
   try dsimp only at H
   replace H:=zO H
   obtain ⟨t956,A20,H⟩:=H
   replace H:=zO H
   obtain ⟨t959,A21,H⟩:=H
   have HC22:=zM H
   clear H
   obtain ⟨Ao23,co23,eo23⟩:=Kd.R_slice HO_6.1
   subst eo23
   go_upto_region 12 with (first|((with_reducible refine zG Try.func8 38 #[.int .i64 (t925.length:Int),.slice Ao23 x6_5.length co23] ?_);(with_reducible refine (impl_ByHart.calls kj5 (t925.length:Int) _ _ x6_5 t939 _ ?side1 ?side2 A16.1).mono ?_);(case side1=>exact zC (Kd.R_reads' HO_6.1).2.2);(case side2=>exact (Kd.R_reads' HO_6.1).2.1);rintro e w24 ⟨v940,rfl,ho0,hb⟩;refine ⟨_,rfl,?_⟩;have HO941:=zM (Kd.N_lower (Kd.N_mono (ok':=fun k_=>some k_≠(.slice Ao8 t924.length co8:Value).ownBlock∧some k_≠(.slice Ao9 t925.length co9:Value).ownBlock∧some k_≠(.slice Ao23 x6_5.length co23:Value).ownBlock) (Kd.S_N (Kd.S_bound ho0)) (fun k_ hk_=>⟨(Kd.fresh' (Kd.R_lt (zR HO_3.1)) k_ hk_.2.1),(Kd.fresh' (Kd.N_lt (by refine zrN ?_;exact HO_4.1)) k_ hk_.2.1),(Kd.fresh' (Kd.R_lt (zR HO_6.1)) k_ hk_.2.1)⟩)) (below_size zB3));replace HO_3:=zM (Kd.R_below (zR HO_3.1) hb);replace HO_4:=zM (Kd.N_elder' (by refine zrN ?_;exact HO_4.1) (Kd.R_base (Kd.S_R ho0)) hb);replace HO_6:=zM (Kd.R_below (zR HO_6.1) hb);replace HB:=zM (below_step zB3 hb);clear hb ho0)|((with_reducible refine zG Try.func9 41 #[.slice A0 l0.length c0] ?_);(with_reducible refine (spec_DrawSeqOk.calls kj5 _ _ l0 t942 t943 _ ?side1 ?side2 A17.1).mono ?_);(case side1=>exact zC (Kd.C_below HR0.1 HB.1));(case side2=>exact HC0.1);rintro e w25 ⟨v944,v946,rfl,ho0,ho1,hb⟩;refine ⟨_,rfl,?_⟩;have HO945:=zM (Kd.R_lower (Kd.R_new' ho0 (Kd.R_lt (zR HO_3.1))) (below_size zB3));have HO947:=zM (Kd.N_lower (Kd.N_mono (ok':=fun k_=>some k_≠(v944:Value).ownBlock∧some k_≠(.slice Ao8 t924.length co8:Value).ownBlock∧some k_≠(.slice Ao9 t925.length co9:Value).ownBlock∧some k_≠(.slice Ao23 x6_5.length co23:Value).ownBlock∧some k_≠(v940:Value).ownBlock) (Kd.S_N (Kd.S_bound (Kd.S_apart' ho1 (Kd.R_typed ho0) (by decide)))) (fun k_ hk_=>⟨hk_.1.2,(Kd.fresh' (Kd.R_lt (zR HO_3.1)) k_ hk_.2.1),(Kd.fresh' (Kd.N_lt (by refine zrN ?_;exact HO_4.1)) k_ hk_.2.1),(Kd.fresh' (Kd.R_lt (zR HO_6.1)) k_ hk_.2.1),(Kd.fresh' (Kd.N_lt (by refine zrN ?_;exact HO941.1)) k_ hk_.2.1)⟩)) (below_size zB3));replace HO_3:=zM (Kd.R_elder' (zR HO_3.1) (Kd.R_base ho0) hb);replace HO_4:=zM (Kd.N_mono (Kd.N_told (Kd.N_told (Kd.N_old (by refine zrN ?_;exact HO_4.1) hb) (Kd.R_base ho0)) (Kd.R_base (Kd.S_R ho1))) (fun _ h_=>h_.1));replace HO_6:=zM (Kd.R_below (zR HO_6.1) hb);replace HO941:=zM (Kd.N_mono (Kd.N_told (Kd.N_told (Kd.N_old (by refine zrN ?_;exact HO941.1) hb) (Kd.R_base ho0)) (Kd.R_base (Kd.S_R ho1))) (fun _ h_=>h_.1));replace HB:=zM (below_step zB3 hb);clear hb ho0 ho1)|((with_reducible refine zG Try.func10 46 #[.slice A0 l0.length c0] ?_);(with_reducible refine (spec_DrawByHart.calls kj5 _ _ l0 t948 t949 _ ?side1 ?side2 A18.1).mono ?_);(case side1=>exact zC (Kd.C_below HR0.1 HB.1));(case side2=>exact HC0.1);rintro e w26 ⟨v950,rfl,ho0,hb⟩;refine ⟨_,rfl,?_⟩;replace HO_3:=zM (Kd.R_below (zR HO_3.1) hb);replace HO_4:=zM (Kd.N_elder' (by refine zrN ?_;exact HO_4.1) (Kd.R_base ho0) hb);replace HO941:=zM (Kd.N_elder' (by refine zrN ?_;exact HO941.1) (Kd.R_base ho0) hb);replace HO945:=zM (Kd.R_below (zR HO945.1) hb);replace HO947:=zM (Kd.N_elder' (by refine zrN ?_;exact HO947.1) (Kd.R_base ho0) hb);have HO951:=zM (Kd.R_lower (Kd.R_new' ho0 (Kd.R_lt (zR HO_6.1))) (below_size zB3));replace HO_6:=zM (Kd.R_elder' (zR HO_6.1) (Kd.R_base ho0) hb);replace HB:=zM (below_step zB3 hb);clear hb ho0)|((with_reducible refine zG Try.func11 50 #[.slice A0 l0.length c0] ?_);(with_reducible refine (spec_DrawDidText.calls kj5 _ _ l0 t952 t953 t954 _ ?side1 ?side2 A19.1).mono ?_);(case side1=>exact zC (Kd.C_below HR0.1 HB.1));(case side2=>exact HC0.1);rintro e w27 ⟨rfl,hb⟩;refine ⟨_,rfl,?_⟩;replace HO_3:=zM (Kd.R_below (zR HO_3.1) hb);replace HO_4:=zM (Kd.N_below (by refine zrN ?_;exact HO_4.1) hb);replace HO_6:=zM (Kd.R_below (zR HO_6.1) hb);replace HO941:=zM (Kd.N_below (by refine zrN ?_;exact HO941.1) hb);replace HO945:=zM (Kd.R_below (zR HO945.1) hb);replace HO947:=zM (Kd.N_below (by refine zrN ?_;exact HO947.1) hb);replace HO951:=zM (Kd.R_below (zR HO951.1) hb);replace HB:=zM (below_step zB3 hb);clear hb)|((with_reducible refine gate_dst (N:=12) rfl ?_);(try (refine gate_guard (by rfl) ?_;dsimp only));(with_reducible refine zBx 12 37 #[.int .i64 0,.int .i64 0,.int .i64 0] ?_);intro gb955 hg w28 hbox hb;replace HO_3:=zM (Kd.R_below (zR HO_3.1) hb);replace HO_4:=zM (Kd.N_below (Kd.N_elderB (by refine zrN ?_;exact HO_4.1) gb955 (Nat.le_of_eq hg.symm)) hb);replace HO_6:=zM (Kd.R_below (zR HO_6.1) hb);replace HO941:=zM (Kd.N_below (Kd.N_elderB (by refine zrN ?_;exact HO941.1) gb955 (Nat.le_of_eq hg.symm)) hb);replace HO945:=zM (Kd.R_below (zR HO945.1) hb);replace HO947:=zM (Kd.N_below (Kd.N_elderB (by refine zrN ?_;exact HO947.1) gb955 (Nat.le_of_eq hg.symm)) hb);replace HO951:=zM (Kd.R_below (zR HO951.1) hb);have BK955:=zM hbox;have GW955:=zM (zW hg (below_size zB3));have GE955:=zM (zW hg (below_size zB3));replace HB:=zM (below_step zB3 hb);clear hb hbox hg;have hcz29:=zc_3 (w:=w28) BK955.1;obtain ⟨Ao30,co30,eo30⟩:=Kd.R_slice HO951.1;subst eo30)|((with_reducible refine zG Try.func8 53 #[.int .i64 t948,.slice Ao30 t949.length co30] ?_);(with_reducible refine (impl_ByHart.calls kj5 t948 _ _ t949 t956 _ ?side1 ?side2 A20.1).mono ?_);(case side1=>refine (Kd.R_reads' (e:=74) (base:=w.heap.size) (ok:=fun k_=>(True∧some k_≠(.slice Ao23 x6_5.length co23:Value).ownBlock)) (n:=t949.length) (c:=co30) ?_).2.2;exact (by refine zrR ?_;exact (Kd.R_mono (zfR (zfR (zfR (Kd.R_types HO951.1 BK955.1 (by decide))))) (fun _ h_=>h_.1))));(case side2=>exact (Kd.R_reads' HO951.1).2.1);rintro e w31 ⟨v957,rfl,ho0,hb⟩;refine ⟨_,rfl,?_⟩;have HO958:=zM (Kd.N_lower (Kd.N_mono (ok':=fun k_=>some k_≠(.slice Ao8 t924.length co8:Value).ownBlock∧some k_≠(.slice Ao9 t925.length co9:Value).ownBlock∧some k_≠(.slice Ao23 x6_5.length co23:Value).ownBlock∧some k_≠(v940:Value).ownBlock∧some k_≠(v944:Value).ownBlock∧some k_≠(v946:Value).ownBlock∧some k_≠(.slice Ao30 t949.length co30:Value).ownBlock∧k_≠gb955) (Kd.S_N (Kd.S_bound ho0)) (fun k_ hk_=>⟨(Kd.fresh' (Kd.R_lt (by refine zrR ?_;exact (Kd.R_mono (zfR (zfR (zfR (Kd.R_types HO_3.1 BK955.1 (by decide))))) (fun _ h_=>h_.1)))) k_ hk_.2.1),(Kd.fresh' (Kd.N_lt (by refine zrN ?_;exact (Kd.N_mono (zfN (zfN (zfN (Kd.N_mono HO_4.1 (fun k_ hk=>(⟨hk,hk.2⟩:_∧k_≠gb955)))))) (fun _ h_=>h_.1)))) k_ hk_.2.1),(Kd.fresh' (Kd.R_lt (by refine zrR ?_;exact (Kd.R_mono (zfR (zfR (zfR (Kd.R_types HO_6.1 BK955.1 (by decide))))) (fun _ h_=>h_.1)))) k_ hk_.2.1),(Kd.fresh' (Kd.N_lt (by refine zrN ?_;exact (Kd.N_mono (zfN (zfN (zfN (Kd.N_mono HO941.1 (fun k_ hk=>(⟨hk,hk.2⟩:_∧k_≠gb955)))))) (fun _ h_=>h_.1)))) k_ hk_.2.1),(Kd.fresh' (Kd.R_lt (by refine zrR ?_;exact (Kd.R_mono (zfR (zfR (zfR (Kd.R_types HO945.1 BK955.1 (by decide))))) (fun _ h_=>h_.1)))) k_ hk_.2.1),(Kd.fresh' (Kd.N_lt (by refine zrN ?_;exact (Kd.N_mono (zfN (zfN (zfN (Kd.N_mono HO947.1 (fun k_ hk=>(⟨hk,hk.2⟩:_∧k_≠gb955)))))) (fun _ h_=>h_.1)))) k_ hk_.2.1),(Kd.fresh' (Kd.R_lt (by refine zrR ?_;exact (Kd.R_mono (zfR (zfR (zfR (Kd.R_types HO951.1 BK955.1 (by decide))))) (fun _ h_=>h_.1)))) k_ hk_.2.1),(Kd.freshB (g:=gb955) (o:= .cells #[.int .i64 t952,.int .i64 t953,.int .i64 t954] 37 (0,0)) (by exact zp3 (zK BK955.1)) k_ hk_.2.1)⟩)) (below_size zB3));replace HO_3:=zM (Kd.R_below (by refine zrR ?_;exact (Kd.R_mono (zfR (zfR (zfR (Kd.R_types HO_3.1 BK955.1 (by decide))))) (fun _ h_=>h_.1))) hb);replace HO_4:=zM (Kd.N_elder' (by refine zrN ?_;exact (Kd.N_mono (zfN (zfN (zfN (Kd.N_mono HO_4.1 (fun k_ hk=>(⟨hk,hk.2⟩:_∧k_≠gb955)))))) (fun _ h_=>h_.1))) (Kd.R_base (Kd.S_R ho0)) hb);replace HO_6:=zM (Kd.R_below (by refine zrR ?_;exact (Kd.R_mono (zfR (zfR (zfR (Kd.R_types HO_6.1 BK955.1 (by decide))))) (fun _ h_=>h_.1))) hb);replace HO941:=zM (Kd.N_elder' (by refine zrN ?_;exact (Kd.N_mono (zfN (zfN (zfN (Kd.N_mono HO941.1 (fun k_ hk=>(⟨hk,hk.2⟩:_∧k_≠gb955)))))) (fun _ h_=>h_.1))) (Kd.R_base (Kd.S_R ho0)) hb);replace HO945:=zM (Kd.R_below (by refine zrR ?_;exact (Kd.R_mono (zfR (zfR (zfR (Kd.R_types HO945.1 BK955.1 (by decide))))) (fun _ h_=>h_.1))) hb);replace HO947:=zM (Kd.N_elder' (by refine zrN ?_;exact (Kd.N_mono (zfN (zfN (zfN (Kd.N_mono HO947.1 (fun k_ hk=>(⟨hk,hk.2⟩:_∧k_≠gb955)))))) (fun _ h_=>h_.1))) (Kd.R_base (Kd.S_R ho0)) hb);replace HO951:=zM (Kd.R_below (by refine zrR ?_;exact (Kd.R_mono (zfR (zfR (zfR (Kd.R_types HO951.1 BK955.1 (by decide))))) (fun _ h_=>h_.1))) hb);replace BK955:=zM (blk_below (g:=gb955) (o:= .cells #[.int .i64 t952,.int .i64 t953,.int .i64 t954] 37 (0,0)) (by exact zp3 (zK BK955.1)) hb);replace HB:=zM (below_step zB3 hb);clear hb ho0)|((with_reducible refine zG Try.func12 56 #[.int .i64 t948,.slice Ao30 t949.length co30] ?_);(with_reducible refine (spec_ByHart.calls kj5 t948 _ _ t949 t959 _ ?side1 ?side2 A21.1).mono ?_);(case side1=>exact zC (Kd.R_reads' HO951.1).2.2);(case side2=>exact (Kd.R_reads' HO951.1).2.1);rintro e w32 ⟨v960,rfl,ho0,hb⟩;refine ⟨_,rfl,?_⟩;have HO961:=zM (Kd.N_lower (Kd.N_mono (ok':=fun k_=>some k_≠(.slice Ao8 t924.length co8:Value).ownBlock∧some k_≠(.slice Ao9 t925.length co9:Value).ownBlock∧some k_≠(.slice Ao23 x6_5.length co23:Value).ownBlock∧some k_≠(v940:Value).ownBlock∧some k_≠(v944:Value).ownBlock∧some k_≠(v946:Value).ownBlock∧some k_≠(.slice Ao30 t949.length co30:Value).ownBlock∧some k_≠(v957:Value).ownBlock∧k_≠gb955) (Kd.S_N (Kd.S_bound ho0)) (fun k_ hk_=>⟨(Kd.fresh' (Kd.R_lt (zR HO_3.1)) k_ hk_.2.1),(Kd.fresh' (Kd.N_lt (by refine zrN ?_;exact HO_4.1)) k_ hk_.2.1),(Kd.fresh' (Kd.R_lt (zR HO_6.1)) k_ hk_.2.1),(Kd.fresh' (Kd.N_lt (by refine zrN ?_;exact HO941.1)) k_ hk_.2.1),(Kd.fresh' (Kd.R_lt (zR HO945.1)) k_ hk_.2.1),(Kd.fresh' (Kd.N_lt (by refine zrN ?_;exact HO947.1)) k_ hk_.2.1),(Kd.fresh' (Kd.R_lt (zR HO951.1)) k_ hk_.2.1),(Kd.fresh' (Kd.N_lt (by refine zrN ?_;exact HO958.1)) k_ hk_.2.1),(Kd.freshB (g:=gb955) (o:= .cells #[.int .i64 t952,.int .i64 t953,.int .i64 t954] 37 (0,0)) (zK BK955.1) k_ hk_.2.1)⟩)) (below_size zB3));replace HO_3:=zM (Kd.R_below (zR HO_3.1) hb);replace HO_4:=zM (Kd.N_elder' (by refine zrN ?_;exact HO_4.1) (Kd.R_base (Kd.S_R ho0)) hb);replace HO_6:=zM (Kd.R_below (zR HO_6.1) hb);replace HO941:=zM (Kd.N_elder' (by refine zrN ?_;exact HO941.1) (Kd.R_base (Kd.S_R ho0)) hb);replace HO945:=zM (Kd.R_below (zR HO945.1) hb);replace HO947:=zM (Kd.N_elder' (by refine zrN ?_;exact HO947.1) (Kd.R_base (Kd.S_R ho0)) hb);replace HO951:=zM (Kd.R_below (zR HO951.1) hb);replace HO958:=zM (Kd.N_elder' (by refine zrN ?_;exact HO958.1) (Kd.R_base (Kd.S_R ho0)) hb);replace BK955:=zM (zb BK955.1 hb);replace HB:=zM (below_step zB3 hb);clear hb ho0))
   (try simp only [Act.put,List.setIfInBounds_toArray,List.set_cons_zero,List.set_cons_succ])
   go_cut [77] (fun v77 wc=>∃(kq:Nat) (x77_21:Bool),v77= .bool x77_21∧Aside0 (laws_FnSeen.j1 kq t924 t939 x77_21=some r)∧Aside0 (kq≤kj5)∧Aside0 (Kd.R (Kd.int .i64) 3 wc w.heap.size (fun _=>True) (.slice Ao8 t924.length co8) t924)∧Aside0 (Kd.N (Kd.slice 37 k37) 41 wc w.heap.size (fun k_=>some k_≠((.slice Ao8 t924.length co8):Value).ownBlock∧k_≠gb955) v940 t939)∧Aside0 (wc.heap[gb955]? =some (.cells #[.int .i64 t952,.int .i64 t953,.int .i64 t954] 37 (0,0)))∧Aside0 (Below w.heap.size w wc))
   case first=>
    have H:=HC22.1
    clear HC22
    replace H:=zO H
    obtain ⟨t962,A33,H⟩:=H
    replace H:=zO H
    obtain ⟨t963,A34,H⟩:=H
    by_cases c35:(t962 != t963)=true
    ·rw [if_pos c35] at H
     have c35b0:(t962 != t963)=true:=c35
     (try (have c35b1:decide (t962=t963)=false:=by simpa using c35))
     (try (have c35b2:(t962 == t963)=false:=by simpa using c35))
     (try (have c35b3: ¬(t962=t963):=by simpa using c35))
     clear c35
     (first|rw [c35b0]|(simp only [i64_w,i32_w];rw [c35b0])|skip)
     have H':=zM H
     clear H
     try go_wp2
     replace HO_3:=zM (Kd.R_drew HO_3.1)
     replace HO_4:=zM (Kd.N_drew HO_4.1)
     replace HO_6:=zM (Kd.R_drew HO_6.1)
     replace HO941:=zM (Kd.N_drew HO941.1)
     replace HO945:=zM (Kd.R_drew HO945.1)
     replace HO947:=zM (Kd.N_drew HO947.1)
     replace HO951:=zM (Kd.R_drew HO951.1)
     replace HO958:=zM (Kd.N_drew HO958.1)
     replace HO961:=zM (Kd.N_drew HO961.1)
     replace BK955:=zM (blk_drew BK955.1)
     replace HB:=zM (below_drew1 HB.1)
     obtain ⟨Ao37,co37,eo37⟩:=Kd.R_slice HO945.1
     (first|subst eo37|(injection eo37 with f1_ f2_ f3_;have f4_:=f1_.symm;have f5_:=f3_.symm;clear f1_ f2_ f3_;subst f4_;subst f5_))
     obtain ⟨Ao38,co38,eo38⟩:=Kd.N_slice HO947.1
     (first|subst eo38|(injection eo38 with f1_ f2_ f3_;have f4_:=f1_.symm;have f5_:=f3_.symm;clear f1_ f2_ f3_;subst f4_;subst f5_))
     refine start_ (n:=21) (S:=fun w'=>True) (ds:=[]) zq21_0 (by kernel_rfl) rfl rfl trivial (fun hHeld=>?_);refine with_tabW laws_FnSeen.tab12 laws_FnSeen.bits12 (fun HT_ HW_=>?_)
     generalize w32.drew=w36 at HO_3 HO_4 HO_6 HO941 HO945 HO947 HO951 HO958 HO961 BK955 HB hHeld ⊢
     refine zPu 0 ?_
     refine zPu 1 ?_
     refine zPu 3 ?_
     refine zPu 4 ?_
     refine zOn 2 (some 59) fun K hK=>?_
     refine zGs Try.func13 #[.slice Ao37 t942.length co37,.slice Ao38 t943.length co38] ?_
     with_reducible refine (impl_SeqOk.calls kj5 _ _ t942 _ _ t943 t962 _ ?side1 ?side2 ?side3 ?side4 A33.1).mono ?_
     (case side1=>exact zC (Kd.R_reads' HO945.1).2.2)
     (case side2=>exact (Kd.R_reads' HO945.1).2.1)
     (case side3=>exact zC (Kd.N_reads' HO947.1).2.2)
     (case side4=>exact (Kd.N_reads' HO947.1).2.1)
     rintro e w39 ⟨rfl,hb⟩
     refine ⟨_,rfl,?_⟩
     replace HO_3:=zM (Kd.R_below (zR HO_3.1) hb)
     replace HO_4:=zM (Kd.N_below (by refine zrN ?_;exact HO_4.1) hb)
     replace HO_6:=zM (Kd.R_below (zR HO_6.1) hb)
     replace HO941:=zM (Kd.N_below (by refine zrN ?_;exact HO941.1) hb)
     replace HO945:=zM (Kd.R_below (zR HO945.1) hb)
     replace HO947:=zM (Kd.N_below (by refine zrN ?_;exact HO947.1) hb)
     replace HO951:=zM (Kd.R_below (zR HO951.1) hb)
     replace HO958:=zM (Kd.N_below (by refine zrN ?_;exact HO958.1) hb)
     replace HO961:=zM (Kd.N_below (by refine zrN ?_;exact HO961.1) hb)
     replace BK955:=zM (zb BK955.1 hb)
     replace HB:=zM (below_step zB3 hb)
     refine hK.out _ _ trivial (fun hHeld=>?_)
     clear hK K
     refine zNo ?_
     refine zOn 5 (some 62) fun K hK=>?_
     refine zGs Try.func14 #[.slice Ao37 t942.length co37,.slice Ao38 t943.length co38] ?_
     with_reducible refine (spec_SeqOk.calls kj5 _ _ t942 _ _ t943 t963 _ ?side1 ?side2 ?side3 ?side4 A34.1).mono ?_
     (case side1=>exact zC (Kd.R_reads' HO945.1).2.2)
     (case side2=>exact (Kd.R_reads' HO945.1).2.1)
     (case side3=>exact zC (Kd.N_reads' HO947.1).2.2)
     (case side4=>exact (Kd.N_reads' HO947.1).2.1)
     rintro e w40 ⟨rfl,hb⟩
     refine ⟨_,rfl,?_⟩
     replace HO_3:=zM (Kd.R_below (zR HO_3.1) hb)
     replace HO_4:=zM (Kd.N_below (by refine zrN ?_;exact HO_4.1) hb)
     replace HO_6:=zM (Kd.R_below (zR HO_6.1) hb)
     replace HO941:=zM (Kd.N_below (by refine zrN ?_;exact HO941.1) hb)
     replace HO945:=zM (Kd.R_below (zR HO945.1) hb)
     replace HO947:=zM (Kd.N_below (by refine zrN ?_;exact HO947.1) hb)
     replace HO951:=zM (Kd.R_below (zR HO951.1) hb)
     replace HO958:=zM (Kd.N_below (by refine zrN ?_;exact HO958.1) hb)
     replace HO961:=zM (Kd.N_below (by refine zrN ?_;exact HO961.1) hb)
     replace BK955:=zM (zb BK955.1 hb)
     replace HB:=zM (below_step zB3 hb)
     refine hK.out _ _ trivial (fun hHeld=>?_)
     clear hK K
     refine zNo ?_
     refine zPu 6 ?_
     refine zPu 7 ?_
     refine zPn 8 ?_
     refine zPn 9 ?_
     refine zPn 10 ?_
     refine zPn 11 ?_
     refine zPn 12 ?_
     refine zPu 13 ?_
     refine zPu 14 ?_
     refine zPn 15 ?_
     refine zPn 16 ?_
     refine zPn 17 ?_
     refine zPn 18 ?_
     refine zPn 19 ?_
     refine zPu 20 ?_
     refine done_ (done_of HT_.1 (by kernel_rfl)) ?_
     try go_wp2
     go_meet
     case rel=>exact ⟨_,(true),zJJ,H',⟨by have:=HJ5.1;first|omega|exact Nat.le_refl _⟩,⟨by refine zrR ?_;exact Kd.R_mono HO_3.1 (fun _ hk=>trivial)⟩,⟨by refine zrN ?_;exact Kd.N_mono HO941.1 (fun _ hk=>⟨hk.1.1.1.1.1.1.1,hk.1.1.2⟩)⟩,⟨zK BK955.1⟩,⟨zB3⟩⟩
    rw [if_neg c35] at H
    have c35b0:(t962 != t963)=false:=by simpa using c35
    (try (have c35b1:decide (t962=t963)=true:=by simpa using c35))
    (try (have c35b2:(t962 == t963)=true:=by simpa using c35))
    clear c35
    (first|rw [c35b0]|(simp only [i64_w,i32_w];rw [c35b0])|skip)
    replace H:=zO H
    obtain ⟨t964,A41,H⟩:=H
    replace H:=zO H
    obtain ⟨t965,A42,H⟩:=H
    by_cases c43:t964.toList=t965.toList
    rotate_left
    ·rw [if_neg c43] at H
     have c43b0:(t964.toList == t965.toList)=false:=beq_eq_false_iff_ne.mpr c43
     have c43b1:(t964.toList != t965.toList)=true:=bne_iff_ne.mpr c43
     have H':=zM H
     clear H
     try go_wp2
     replace HO_3:=zM (Kd.R_drew HO_3.1)
     replace HO_4:=zM (Kd.N_drew HO_4.1)
     replace HO_6:=zM (Kd.R_drew HO_6.1)
     replace HO941:=zM (Kd.N_drew HO941.1)
     replace HO945:=zM (Kd.R_drew HO945.1)
     replace HO947:=zM (Kd.N_drew HO947.1)
     replace HO951:=zM (Kd.R_drew HO951.1)
     replace HO958:=zM (Kd.N_drew HO958.1)
     replace HO961:=zM (Kd.N_drew HO961.1)
     replace BK955:=zM (blk_drew BK955.1)
     replace HB:=zM (below_drew1 HB.1)
     obtain ⟨Ao54,co54,eo54⟩:=Kd.R_slice HO945.1
     (first|subst eo54|(injection eo54 with f1_ f2_ f3_;have f4_:=f1_.symm;have f5_:=f3_.symm;clear f1_ f2_ f3_;subst f4_;subst f5_))
     obtain ⟨Ao55,co55,eo55⟩:=Kd.N_slice HO947.1
     (first|subst eo55|(injection eo55 with f1_ f2_ f3_;have f4_:=f1_.symm;have f5_:=f3_.symm;clear f1_ f2_ f3_;subst f4_;subst f5_))
     refine start_ (n:=21) (S:=fun w'=>w'.cell? ⟨gb955,0,none⟩=some (.int .i64 t952)∧w'.cell? ⟨gb955,1,none⟩=some (.int .i64 t953)∧w'.cell? ⟨gb955,2,none⟩=some (.int .i64 t954)) (ds:=[]) zq21_0 (by kernel_rfl) rfl rfl ⟨(blk_cell BK955.1 0).trans rfl,(blk_cell BK955.1 1).trans rfl,(blk_cell BK955.1 2).trans rfl⟩ (fun hHeld=>?_);refine with_tabW laws_FnSeen.tab12 laws_FnSeen.bits12 (fun HT_ HW_=>?_)
     generalize w32.drew=w53 at HO_3 HO_4 HO_6 HO941 HO945 HO947 HO951 HO958 HO961 BK955 HB hHeld ⊢
     refine zPu 0 ?_
     refine zPu 1 ?_
     refine zPu 3 ?_
     refine zPu 4 ?_
     refine zOn 2 (some 59) fun K hK=>?_
     refine zGs Try.func13 #[.slice Ao54 t942.length co54,.slice Ao55 t943.length co55] ?_
     with_reducible refine (impl_SeqOk.calls kj5 _ _ t942 _ _ t943 t962 _ ?side1 ?side2 ?side3 ?side4 A33.1).mono ?_
     (case side1=>exact zC (Kd.R_reads' HO945.1).2.2)
     (case side2=>exact (Kd.R_reads' HO945.1).2.1)
     (case side3=>exact zC (Kd.N_reads' HO947.1).2.2)
     (case side4=>exact (Kd.N_reads' HO947.1).2.1)
     rintro e w56 ⟨rfl,hb⟩
     refine ⟨_,rfl,?_⟩
     replace HO_3:=zM (Kd.R_below (zR HO_3.1) hb)
     replace HO_4:=zM (Kd.N_below (by refine zrN ?_;exact HO_4.1) hb)
     replace HO_6:=zM (Kd.R_below (zR HO_6.1) hb)
     replace HO941:=zM (Kd.N_below (by refine zrN ?_;exact HO941.1) hb)
     replace HO945:=zM (Kd.R_below (zR HO945.1) hb)
     replace HO947:=zM (Kd.N_below (by refine zrN ?_;exact HO947.1) hb)
     replace HO951:=zM (Kd.R_below (zR HO951.1) hb)
     replace HO958:=zM (Kd.N_below (by refine zrN ?_;exact HO958.1) hb)
     replace HO961:=zM (Kd.N_below (by refine zrN ?_;exact HO961.1) hb)
     replace BK955:=zM (zb BK955.1 hb)
     replace HB:=zM (below_step zB3 hb)
     refine hK.out _ _ zCs fun hHeld=>?_
     clear hK K
     refine zNo ?_
     refine zOn 5 (some 62) fun K hK=>?_
     refine zGs Try.func14 #[.slice Ao54 t942.length co54,.slice Ao55 t943.length co55] ?_
     with_reducible refine (spec_SeqOk.calls kj5 _ _ t942 _ _ t943 t963 _ ?side1 ?side2 ?side3 ?side4 A34.1).mono ?_
     (case side1=>exact zC (Kd.R_reads' HO945.1).2.2)
     (case side2=>exact (Kd.R_reads' HO945.1).2.1)
     (case side3=>exact zC (Kd.N_reads' HO947.1).2.2)
     (case side4=>exact (Kd.N_reads' HO947.1).2.1)
     rintro e w57 ⟨rfl,hb⟩
     refine ⟨_,rfl,?_⟩
     replace HO_3:=zM (Kd.R_below (zR HO_3.1) hb)
     replace HO_4:=zM (Kd.N_below (by refine zrN ?_;exact HO_4.1) hb)
     replace HO_6:=zM (Kd.R_below (zR HO_6.1) hb)
     replace HO941:=zM (Kd.N_below (by refine zrN ?_;exact HO941.1) hb)
     replace HO945:=zM (Kd.R_below (zR HO945.1) hb)
     replace HO947:=zM (Kd.N_below (by refine zrN ?_;exact HO947.1) hb)
     replace HO951:=zM (Kd.R_below (zR HO951.1) hb)
     replace HO958:=zM (Kd.N_below (by refine zrN ?_;exact HO958.1) hb)
     replace HO961:=zM (Kd.N_below (by refine zrN ?_;exact HO961.1) hb)
     replace BK955:=zM (zb BK955.1 hb)
     replace HB:=zM (below_step zB3 hb)
     refine hK.out _ _ zCs fun hHeld=>?_
     clear hK K
     refine zNo ?_
     refine zPu 6 ?_
     refine zPu 7 ?_
     refine zTk3 8 hHeld ?_
     refine zTk3 10 hHeld ?_
     refine zOn 9 (some 66) fun K hK=>?_
     refine zGs Try.func15 #[.agg #[.int .i64 t952,.int .i64 t953,.int .i64 t954]] ?_
     with_reducible refine (impl_DidText.calls kj5 t952 t953 t954 t964 _ A41.1).mono ?_
     rintro e w58 ⟨rfl,hb⟩
     refine ⟨_,rfl,?_⟩
     replace HO_3:=zM (Kd.R_below (zR HO_3.1) hb)
     replace HO_4:=zM (Kd.N_below (by refine zrN ?_;exact HO_4.1) hb)
     replace HO_6:=zM (Kd.R_below (zR HO_6.1) hb)
     replace HO941:=zM (Kd.N_below (by refine zrN ?_;exact HO941.1) hb)
     replace HO945:=zM (Kd.R_below (zR HO945.1) hb)
     replace HO947:=zM (Kd.N_below (by refine zrN ?_;exact HO947.1) hb)
     replace HO951:=zM (Kd.R_below (zR HO951.1) hb)
     replace HO958:=zM (Kd.N_below (by refine zrN ?_;exact HO958.1) hb)
     replace HO961:=zM (Kd.N_below (by refine zrN ?_;exact HO961.1) hb)
     replace BK955:=zM (zb BK955.1 hb)
     replace HB:=zM (below_step zB3 hb)
     refine hK.out _ _ zCs fun hHeld=>?_
     clear hK K
     refine zNo ?_
     refine zOn 11 (some 68) fun K hK=>?_
     refine zGs Try.func16 #[.agg #[.int .i64 t952,.int .i64 t953,.int .i64 t954]] ?_
     with_reducible refine (spec_DidText.calls kj5 t952 t953 t954 t965 _ A42.1).mono ?_
     rintro e w59 ⟨rfl,hb⟩
     refine ⟨_,rfl,?_⟩
     replace HO_3:=zM (Kd.R_below (zR HO_3.1) hb)
     replace HO_4:=zM (Kd.N_below (by refine zrN ?_;exact HO_4.1) hb)
     replace HO_6:=zM (Kd.R_below (zR HO_6.1) hb)
     replace HO941:=zM (Kd.N_below (by refine zrN ?_;exact HO941.1) hb)
     replace HO945:=zM (Kd.R_below (zR HO945.1) hb)
     replace HO947:=zM (Kd.N_below (by refine zrN ?_;exact HO947.1) hb)
     replace HO951:=zM (Kd.R_below (zR HO951.1) hb)
     replace HO958:=zM (Kd.N_below (by refine zrN ?_;exact HO958.1) hb)
     replace HO961:=zM (Kd.N_below (by refine zrN ?_;exact HO961.1) hb)
     replace BK955:=zM (zb BK955.1 hb)
     replace HB:=zM (below_step zB3 hb)
     refine hK.out _ _ zCs fun hHeld=>?_
     clear hK K
     refine zNo ?_
     refine zPu 12 ?_
     refine zPu 13 ?_
     refine zPu 14 ?_
     refine zPn 15 ?_
     refine zPn 16 ?_
     refine zPn 17 ?_
     refine zPn 18 ?_
     refine zPn 19 ?_
     refine zPu 20 ?_
     refine done_ (done_of HT_.1 (by kernel_rfl)) ?_
     try go_wp2
     go_meet
     case rel=>exact ⟨_,(true),zJJ,H',⟨by have:=HJ5.1;first|omega|exact Nat.le_refl _⟩,⟨by refine zrR ?_;exact Kd.R_mono HO_3.1 (fun _ hk=>trivial)⟩,⟨by refine zrN ?_;exact Kd.N_mono HO941.1 (fun _ hk=>⟨hk.1.1.1.1.1.1.1,hk.1.1.2⟩)⟩,⟨zK BK955.1⟩,⟨zB3⟩⟩
    rw [if_pos c43] at H
    have c43b0:(t964.toList == t965.toList)=true:=beq_iff_eq.mpr c43
    have c43b1:(t964.toList != t965.toList)=false:=bne_eq_false_iff_eq.mpr c43
    clear c43
    have H':=zM H
    clear H
    try go_wp2
    replace HO_3:=zM (Kd.R_drew HO_3.1)
    replace HO_4:=zM (Kd.N_drew HO_4.1)
    replace HO_6:=zM (Kd.R_drew HO_6.1)
    replace HO941:=zM (Kd.N_drew HO941.1)
    replace HO945:=zM (Kd.R_drew HO945.1)
    replace HO947:=zM (Kd.N_drew HO947.1)
    replace HO951:=zM (Kd.R_drew HO951.1)
    replace HO958:=zM (Kd.N_drew HO958.1)
    replace HO961:=zM (Kd.N_drew HO961.1)
    replace BK955:=zM (blk_drew BK955.1)
    replace HB:=zM (below_drew1 HB.1)
    obtain ⟨Ao45,co45,eo45⟩:=Kd.R_slice HO945.1
    (first|subst eo45|(injection eo45 with f1_ f2_ f3_;have f4_:=f1_.symm;have f5_:=f3_.symm;clear f1_ f2_ f3_;subst f4_;subst f5_))
    obtain ⟨Ao46,co46,eo46⟩:=Kd.N_slice HO947.1
    (first|subst eo46|(injection eo46 with f1_ f2_ f3_;have f4_:=f1_.symm;have f5_:=f3_.symm;clear f1_ f2_ f3_;subst f4_;subst f5_))
    refine start_ (n:=21) (S:=fun w'=>w'.cell? ⟨gb955,0,none⟩=some (.int .i64 t952)∧w'.cell? ⟨gb955,1,none⟩=some (.int .i64 t953)∧w'.cell? ⟨gb955,2,none⟩=some (.int .i64 t954)) (ds:=[]) zq21_0 (by kernel_rfl) rfl rfl ⟨(blk_cell BK955.1 0).trans rfl,(blk_cell BK955.1 1).trans rfl,(blk_cell BK955.1 2).trans rfl⟩ (fun hHeld=>?_);refine with_tabW laws_FnSeen.tab12 laws_FnSeen.bits12 (fun HT_ HW_=>?_)
    generalize w32.drew=w44 at HO_3 HO_4 HO_6 HO941 HO945 HO947 HO951 HO958 HO961 BK955 HB hHeld ⊢
    refine zPu 0 ?_
    refine zPu 1 ?_
    refine zPu 3 ?_
    refine zPu 4 ?_
    refine zOn 2 (some 59) fun K hK=>?_
    refine zGs Try.func13 #[.slice Ao45 t942.length co45,.slice Ao46 t943.length co46] ?_
    with_reducible refine (impl_SeqOk.calls kj5 _ _ t942 _ _ t943 t962 _ ?side1 ?side2 ?side3 ?side4 A33.1).mono ?_
    (case side1=>exact zC (Kd.R_reads' HO945.1).2.2)
    (case side2=>exact (Kd.R_reads' HO945.1).2.1)
    (case side3=>exact zC (Kd.N_reads' HO947.1).2.2)
    (case side4=>exact (Kd.N_reads' HO947.1).2.1)
    rintro e w47 ⟨rfl,hb⟩
    refine ⟨_,rfl,?_⟩
    replace HO_3:=zM (Kd.R_below (zR HO_3.1) hb)
    replace HO_4:=zM (Kd.N_below (by refine zrN ?_;exact HO_4.1) hb)
    replace HO_6:=zM (Kd.R_below (zR HO_6.1) hb)
    replace HO941:=zM (Kd.N_below (by refine zrN ?_;exact HO941.1) hb)
    replace HO945:=zM (Kd.R_below (zR HO945.1) hb)
    replace HO947:=zM (Kd.N_below (by refine zrN ?_;exact HO947.1) hb)
    replace HO951:=zM (Kd.R_below (zR HO951.1) hb)
    replace HO958:=zM (Kd.N_below (by refine zrN ?_;exact HO958.1) hb)
    replace HO961:=zM (Kd.N_below (by refine zrN ?_;exact HO961.1) hb)
    replace BK955:=zM (zb BK955.1 hb)
    replace HB:=zM (below_step zB3 hb)
    refine hK.out _ _ zCs fun hHeld=>?_
    clear hK K
    refine zNo ?_
    refine zOn 5 (some 62) fun K hK=>?_
    refine zGs Try.func14 #[.slice Ao45 t942.length co45,.slice Ao46 t943.length co46] ?_
    with_reducible refine (spec_SeqOk.calls kj5 _ _ t942 _ _ t943 t963 _ ?side1 ?side2 ?side3 ?side4 A34.1).mono ?_
    (case side1=>exact zC (Kd.R_reads' HO945.1).2.2)
    (case side2=>exact (Kd.R_reads' HO945.1).2.1)
    (case side3=>exact zC (Kd.N_reads' HO947.1).2.2)
    (case side4=>exact (Kd.N_reads' HO947.1).2.1)
    rintro e w48 ⟨rfl,hb⟩
    refine ⟨_,rfl,?_⟩
    replace HO_3:=zM (Kd.R_below (zR HO_3.1) hb)
    replace HO_4:=zM (Kd.N_below (by refine zrN ?_;exact HO_4.1) hb)
    replace HO_6:=zM (Kd.R_below (zR HO_6.1) hb)
    replace HO941:=zM (Kd.N_below (by refine zrN ?_;exact HO941.1) hb)
    replace HO945:=zM (Kd.R_below (zR HO945.1) hb)
    replace HO947:=zM (Kd.N_below (by refine zrN ?_;exact HO947.1) hb)
    replace HO951:=zM (Kd.R_below (zR HO951.1) hb)
    replace HO958:=zM (Kd.N_below (by refine zrN ?_;exact HO958.1) hb)
    replace HO961:=zM (Kd.N_below (by refine zrN ?_;exact HO961.1) hb)
    replace BK955:=zM (zb BK955.1 hb)
    replace HB:=zM (below_step zB3 hb)
    refine hK.out _ _ zCs fun hHeld=>?_
    clear hK K
    refine zNo ?_
    refine zPu 6 ?_
    refine zPu 7 ?_
    refine zTk3 8 hHeld ?_
    refine zTk3 10 hHeld ?_
    refine zOn 9 (some 66) fun K hK=>?_
    refine zGs Try.func15 #[.agg #[.int .i64 t952,.int .i64 t953,.int .i64 t954]] ?_
    with_reducible refine (impl_DidText.calls kj5 t952 t953 t954 t964 _ A41.1).mono ?_
    rintro e w49 ⟨rfl,hb⟩
    refine ⟨_,rfl,?_⟩
    replace HO_3:=zM (Kd.R_below (zR HO_3.1) hb)
    replace HO_4:=zM (Kd.N_below (by refine zrN ?_;exact HO_4.1) hb)
    replace HO_6:=zM (Kd.R_below (zR HO_6.1) hb)
    replace HO941:=zM (Kd.N_below (by refine zrN ?_;exact HO941.1) hb)
    replace HO945:=zM (Kd.R_below (zR HO945.1) hb)
    replace HO947:=zM (Kd.N_below (by refine zrN ?_;exact HO947.1) hb)
    replace HO951:=zM (Kd.R_below (zR HO951.1) hb)
    replace HO958:=zM (Kd.N_below (by refine zrN ?_;exact HO958.1) hb)
    replace HO961:=zM (Kd.N_below (by refine zrN ?_;exact HO961.1) hb)
    replace BK955:=zM (zb BK955.1 hb)
    replace HB:=zM (below_step zB3 hb)
    refine hK.out _ _ zCs fun hHeld=>?_
    clear hK K
    refine zNo ?_
    refine zOn 11 (some 68) fun K hK=>?_
    refine zGs Try.func16 #[.agg #[.int .i64 t952,.int .i64 t953,.int .i64 t954]] ?_
    with_reducible refine (spec_DidText.calls kj5 t952 t953 t954 t965 _ A42.1).mono ?_
    rintro e w50 ⟨rfl,hb⟩
    refine ⟨_,rfl,?_⟩
    replace HO_3:=zM (Kd.R_below (zR HO_3.1) hb)
    replace HO_4:=zM (Kd.N_below (by refine zrN ?_;exact HO_4.1) hb)
    replace HO_6:=zM (Kd.R_below (zR HO_6.1) hb)
    replace HO941:=zM (Kd.N_below (by refine zrN ?_;exact HO941.1) hb)
    replace HO945:=zM (Kd.R_below (zR HO945.1) hb)
    replace HO947:=zM (Kd.N_below (by refine zrN ?_;exact HO947.1) hb)
    replace HO951:=zM (Kd.R_below (zR HO951.1) hb)
    replace HO958:=zM (Kd.N_below (by refine zrN ?_;exact HO958.1) hb)
    replace HO961:=zM (Kd.N_below (by refine zrN ?_;exact HO961.1) hb)
    replace BK955:=zM (zb BK955.1 hb)
    replace HB:=zM (below_step zB3 hb)
    obtain ⟨Ao51,co51,eo51⟩:=Kd.N_slice HO958.1
    (first|subst eo51|(injection eo51 with f1_ f2_ f3_;have f4_:=f1_.symm;have f5_:=f3_.symm;clear f1_ f2_ f3_;subst f4_;subst f5_))
    obtain ⟨Ao52,co52,eo52⟩:=Kd.N_slice HO961.1
    (first|subst eo52|(injection eo52 with f1_ f2_ f3_;have f4_:=f1_.symm;have f5_:=f3_.symm;clear f1_ f2_ f3_;subst f4_;subst f5_))
    refine hK.out _ _ zCs fun hHeld=>?_
    clear hK K
    refine zNo ?_
    refine zPu 12 ?_
    refine zPu 13 ?_
    refine zPu 14 ?_
    refine zPu 15 ?_
    refine zPu 16 ?_
    refine zPu 17 ?_
    refine zPu 18 ?_
    refine zPu 19 ?_
    refine zPu 20 ?_
    refine done_ (done_of HT_.1 (by kernel_rfl)) ?_
    try go_wp2
    go_meet
    case rel=>exact ⟨_,(((t956.length:Int) != (t959.length:Int))),zJJ,H',⟨by have:=HJ5.1;first|omega|exact Nat.le_refl _⟩,⟨by refine zrR ?_;exact Kd.R_mono HO_3.1 (fun _ hk=>trivial)⟩,⟨by refine zrN ?_;exact Kd.N_mono HO941.1 (fun _ hk=>⟨hk.1.1.1.1.1.1.1,hk.1.1.2⟩)⟩,⟨zK BK955.1⟩,⟨zB3⟩⟩
   case rest=>
    clear HC22
    obtain ⟨kq,x77_21,rfl,HA,HJ21,HO_3,HO_7,BK955,HB⟩:=hcut
    cases kq with
    |zero=>exact absurd HA.1 (by simp [laws_FnSeen.j1])
    |succ kj21=>
     have H:=HA.1
     clear HA
     simp only [laws_FnSeen.j1] at H
     by_cases c60:x77_21=true
     ·subst c60
      rw [if_pos rfl] at H
      obtain rfl:=Option.some.inj H
      go_wp2
      go_ret
      exact ⟨zE,zB3⟩
     replace c60:=Bool.eq_false_iff.mpr c60
     subst c60
     rw [if_neg zF] at H
     have H':=zM H
     clear H
     go_wp2
     go_loopg [15,16] kj21 (fun kq v15 v16 w'=>∃(x15_3:Int) (x16_3:Int),v15= .int .i64 x15_3∧v16= .int .i64 x16_3∧Aside0 (laws_FnSeen.l0 kq t924 t939 x15_3 x16_3=some r)∧Aside0 (kq≤kj21)∧Aside0 (Kd.R (Kd.int .i64) 3 w' w.heap.size (fun _=>True) (.slice Ao8 t924.length co8) t924)∧Aside0 (Kd.N (Kd.slice 37 k37) 41 w' w.heap.size (fun k_=>some k_≠((.slice Ao8 t924.length co8):Value).ownBlock∧k_≠gb955) v940 t939)∧Aside0 (w'.heap[gb955]? =some (.cells #[.int .i64 t952,.int .i64 t953,.int .i64 t954] 37 (0,0)))∧Aside0 (Below w.heap.size w w'))
     case atStart=>exact ⟨(0),(0),zJJ,zJJ,H',⟨Nat.le_refl _⟩,⟨zR HO_3.1⟩,⟨by refine zrN ?_;exact HO_7.1⟩,⟨zK BK955.1⟩,⟨zB3⟩⟩
     case round=>
      clear H'
      obtain ⟨x15_3,x16_3,rfl,rfl,HA,HK3,HO_3,HO_7,BK955,HB⟩:=hrel
      cases gk with
      |zero=>exact absurd HA.1 (by simp [laws_FnSeen.l0])
      |succ k3=>
       have H:=HA.1
       clear HA
       simp only [laws_FnSeen.l0] at H
       by_cases c61:x16_3<(t939.length:Int)
       ·rw [if_pos c61] at H
        have c61b0:=decide_eq_true c61
        clear c61
        replace H:=zIt H
        obtain ⟨c62b0,H⟩:=H
        have H':=zM H
        clear H
        obtain ⟨Ao63,co63,eo63⟩:=Kd.N_slice HO_7.1
        subst eo63
        obtain ⟨p966,q966,ad966,A966_0,c966_0,e966,hx966_0,hl966_0,hi966_0⟩:=zRd (at_L7 (Kd.N_reads' HO_7.1).2.2 x16_3)
        cases e966
        obtain ⟨ce966,hce966,hMe966,hcc966⟩:=Kd.N_get HO_7.1 [] x16_3 zA (by first|exact zA|(have e_:=(Kd.N_reads' HO_7.1).1;omega))
        obtain ⟨ua966_0,uc966_0,rfl,ul966_0,ge966_0⟩:=Kd.FK_slice_open hMe966
        have hv966_0:=hcc966 0 _ rfl
        rw [Nat.add_zero,show ((Kd.slice 37 k37)).sz=1 from rfl,Nat.mul_one] at hv966_0
        replace hv966_0:=Option.some.inj (hv966_0.symm.trans hx966_0)
        injection hv966_0 with hva_ hvn_ hvc_
        rw [hva_] at ge966_0
        rw [hvc_] at ul966_0
        have HL966_0:=zM (show Kd.V k37 37 _ w.heap.size _ _ (rd_L7 t939 x16_3) from Kd.V_mk ul966_0 ge966_0)
        clear hva_ hvn_ hvc_ ge966_0 ul966_0 hcc966 hce966
        have HR966_0:=zM hi966_0
        have HC966_0:=zM hl966_0
        clear hi966_0 hl966_0
        go_wp2
        go_roundg k3
        case measure=>have:=HJ5.1;have:=HJ21.1;have:=HK3.1;omega
        case rel=>exact ⟨(wrap64 (x15_3+((rd_L7 t939 x16_3).length:Int))),(wrap64 (x16_3+1)),zJJ,zJJ,H',⟨by have:=HJ5.1;have:=HJ21.1;have:=HK3.1;omega⟩,⟨zR HO_3.1⟩,⟨by refine zrN ?_;exact HO_7.1⟩,⟨zK BK955.1⟩,⟨zB3⟩⟩
       rw [if_neg c61] at H
       have c61b0:=decide_eq_false c61
       clear c61
       by_cases c64:x15_3>12
       ·rw [if_pos c64] at H
        have c64b0:=decide_eq_true c64
        clear c64
        obtain rfl:=Option.some.inj H
        obtain ⟨Ao65,co65,eo65⟩:=Kd.N_slice HO_7.1
        subst eo65
        go_wp2
        go_ret
        exact ⟨zE,zB3⟩
       rw [if_neg c64] at H
       have c64b0:=decide_eq_false c64
       clear c64
       replace H:=zO H
       obtain ⟨t967,A66,H⟩:=H
       by_cases c67:t967=true
       rotate_left
       ·replace c67:=Bool.eq_false_iff.mpr c67
        subst c67
        rw [if_neg zF] at H
        obtain rfl:=Option.some.inj H
        obtain ⟨Ao87,co87,eo87⟩:=Kd.N_slice HO_7.1
        subst eo87
        go_wp2_with (first|((with_reducible refine zG Try.func13 95 #[.slice Ao8 t924.length co8,.slice Ao87 t939.length co87] ?_);(with_reducible refine (impl_SeqOk.calls k3 _ _ t924 _ _ t939 false _ ?side1 ?side2 ?side3 ?side4 A66.1).mono ?_);(case side1=>exact zC (Kd.R_reads' HO_3.1).2.2);(case side2=>exact (Kd.R_reads' HO_3.1).2.1);(case side3=>exact zC (Kd.N_reads' HO_7.1).2.2);(case side4=>exact (Kd.N_reads' HO_7.1).2.1);rintro e w88 ⟨rfl,hb⟩;refine ⟨_,rfl,?_⟩;replace HO_3:=zM (Kd.R_below (zR HO_3.1) hb);replace HO_7:=zM (Kd.N_below (by refine zrN ?_;exact HO_7.1) hb);replace BK955:=zM (zb BK955.1 hb);replace HB:=zM (below_step zB3 hb);clear hb))
        go_ret
        exact ⟨zE,zB3⟩
       subst c67
       rw [if_pos rfl] at H
       generalize hy968:((([(⟨3,77,(-1)⟩:S37)]:List (S37))):List (S37))=y968 at H
       have Ny968:=zM hy968.symm
       clear hy968
       generalize hy971:((([y968]:List (List (S37)))):List (List (S37)))=y971 at H
       have Ny971:=zM hy971.symm
       clear hy971
       replace H:=zIp H
       obtain ⟨c68,H⟩:=H
       have c68b0:=decide_eq_true c68
       have c68b1:decide (3<t924.length)=true:=decide_eq_true (by omega)
       clear c68
       by_cases c69:(rd t924 3)=77
       ·rw [if_pos c69] at H
        have c69b0:((rd t924 3) == 77)=true:=beq_iff_eq.mpr c69
        have c69b1:((rd t924 3) != 77)=false:=bne_eq_false_iff_eq.mpr c69
        clear c69
        obtain rfl:=Option.some.inj H
        obtain ⟨Ao70,co70,eo70⟩:=Kd.N_slice HO_7.1
        subst eo70
        go_wp2_with (first|((with_reducible refine zG Try.func13 95 #[.slice Ao8 t924.length co8,.slice Ao70 t939.length co70] ?_);(with_reducible refine (impl_SeqOk.calls k3 _ _ t924 _ _ t939 true _ ?side1 ?side2 ?side3 ?side4 A66.1).mono ?_);(case side1=>exact zC (Kd.R_reads' HO_3.1).2.2);(case side2=>exact (Kd.R_reads' HO_3.1).2.1);(case side3=>exact zC (Kd.N_reads' HO_7.1).2.2);(case side4=>exact (Kd.N_reads' HO_7.1).2.1);rintro e w71 ⟨rfl,hb⟩;refine ⟨_,rfl,?_⟩;replace HO_3:=zM (Kd.R_below (zR HO_3.1) hb);replace HO_7:=zM (Kd.N_below (by refine zrN ?_;exact HO_7.1) hb);replace BK955:=zM (zb BK955.1 hb);replace HB:=zM (below_step zB3 hb);clear hb)|((with_reducible refine gate_dst (N:=98) rfl ?_);(try (refine gate_guard (by rfl) ?_;dsimp only));refine Kd.R_lit k37 _ 37 ?hg (N:=98) ?hd (xs:=([(⟨3,77,(-1)⟩:S37)]:List (S37))) (inner:=[.int .i64 3,.int .i64 77,.int .i64 (-1)]) (ok:=fun _=>True) (okp:=fun _=>True) ?hr ?hp (fun _ hk=>hk) trivial (Below.refl _ _) (Nat.le_refl _) (by simp) ?_;(case hd=>rfl);(case hg=>rfl);(case hr=>exact zHH);(case hp=>exact (Reps.c3 (show Kd.M k37 _ _ _ (⟨3,77,(-1)⟩:S37) [.int .i64 3,.int .i64 77,.int .i64 (-1)] from (k37_mkM _ _ _ (⟨3,77,(-1)⟩:S37))) (Reps.none _ _)));intro v969 w72 ho73 hb hg_ hnew_;clear hg_ hnew_;(first|rw [←Ny968.1] at ho73|(simp only [Int.reduceToNat] at ho73;rw [←Ny968.1] at ho73));replace HO_3:=zM (Kd.R_below (zR HO_3.1) hb);replace HO_7:=zM (Kd.N_elder' (by refine zrN ?_;exact HO_7.1) (Kd.R_base ho73) hb);have HO970:=zM (Kd.R_lower (Kd.R_newB ho73 (g:=gb955) (o:= .cells #[.int .i64 t952,.int .i64 t953,.int .i64 t954] 37 (0,0)) (zK BK955.1)) (below_size zB3));replace BK955:=zM (zb BK955.1 hb);replace HB:=zM (below_step zB3 hb);clear hb ho73;obtain ⟨Ao74,co74,eo74⟩:=Kd.R_slice HO970.1;subst eo74)|((with_reducible refine gate_dst (N:=99) rfl ?_);(try (refine gate_guard (by rfl) ?_;dsimp only));refine Kd.N_lit (Kd.slice 37 k37) _ 41 ?hg (N':=99) ?hd (xs:=([y968]:List (List (S37)))) (inner:=[.slice Ao74 y968.length co74]) (ok:=(fun k_=>some k_≠(.slice Ao8 t924.length co8:Value).ownBlock∧some k_≠(.slice Ao70 t939.length co70:Value).ownBlock∧k_≠gb955)) (okp:=(fun k_=>some k_≠(.slice Ao8 t924.length co8:Value).ownBlock∧some k_≠(.slice Ao70 t939.length co70:Value).ownBlock∧k_≠gb955)) ?hr ?hp (fun _ hk=>hk) ((show ∀k_,w72.heap.size≤k_→(fun k_=>some k_≠(.slice Ao8 t924.length co8:Value).ownBlock∧some k_≠(.slice Ao70 t939.length co70:Value).ownBlock∧k_≠gb955) k_ from fun k_ hk=>⟨Kd.fresh' (Kd.R_lt (zR HO_3.1)) k_ hk,Kd.fresh' (Kd.N_lt (by refine zrN ?_;exact HO_7.1)) k_ hk,Kd.freshB (g:=gb955) (o:= .cells #[.int .i64 t952,.int .i64 t953,.int .i64 t954] 37 (0,0)) (zK BK955.1) k_ hk⟩) _ (Nat.le_refl _)) (Below.refl _ _) (Nat.le_refl _) (by simp) ?_;(case hd=>rfl);(case hg=>rfl);(case hr=>exact zHH);(case hp=>exact (Reps.one (show Kd.FK (Kd.slice 37 k37) _ _ y968 [.slice Ao74 y968.length co74] from (Kd.FK_slice_mk (Kd.R_reads' (Kd.R_mono (ok':=(fun k_=>some k_≠(.slice Ao8 t924.length co8:Value).ownBlock∧some k_≠(.slice Ao70 t939.length co70:Value).ownBlock∧k_≠gb955)) (Kd.R_apart' (Kd.R_apart' (HO970.1) (Kd.R_typed HO_3.1) (by decide)) (Kd.N_typed HO_7.1) (by decide)) (fun k_ hk=>⟨hk.1.2,⟨hk.2,hk.1.1.2⟩⟩))).2.1 (Kd.R_F (Kd.R_mono (ok':=(fun k_=>some k_≠(.slice Ao8 t924.length co8:Value).ownBlock∧some k_≠(.slice Ao70 t939.length co70:Value).ownBlock∧k_≠gb955)) (Kd.R_apart' (Kd.R_apart' (HO970.1) (Kd.R_typed HO_3.1) (by decide)) (Kd.N_typed HO_7.1) (by decide)) (fun k_ hk=>⟨hk.1.2,⟨hk.2,hk.1.1.2⟩⟩))))) (Reps.none _ _)));intro v972 w75 ho76 hb hg_ hnew_;clear hg_ hnew_;(first|rw [←Ny971.1] at ho76|(simp only [Int.reduceToNat] at ho76;rw [←Ny971.1] at ho76));replace HO_3:=zM (Kd.R_below (zR HO_3.1) hb);replace HO_7:=zM (Kd.N_elder' (by refine zrN ?_;exact HO_7.1) (Kd.N_base ho76) hb);have HO973:=zM (Kd.N_lower ho76 (below_size zB3));replace BK955:=zM (zb BK955.1 hb);replace HB:=zM (below_step zB3 hb);clear HO970;clear hb ho76;have p974:0≤(3:Int):=(by omega);have q974:3<(t924.length:Int):=zA;obtain ⟨ad974,e974,hx974_0⟩:=Kd.at_int (Kd.R_reads' HO_3.1).2.2 3 p974 q974;cases e974;(try simp only [show (3:Int).toNat=3 from rfl,Nat.reduceMul,Nat.reduceEqDiff,Go.Addr.add,↓reduceIte] at hx974_0);have qi974:(3<t924.length)=True:=eq_true (by omega);(try rw [show ((3:Int)).toNat=3 from rfl] at hx974_0);replace p974:=eq_true p974;replace q974:=eq_true q974))
        go_ret
        exact ⟨zE,zB3⟩
       rw [if_neg c69] at H
       have c69b0:((rd t924 3) == 77)=false:=beq_eq_false_iff_ne.mpr c69
       have c69b1:((rd t924 3) != 77)=true:=bne_iff_ne.mpr c69
       replace H:=zO H
       obtain ⟨t975,A77,H⟩:=H
       obtain rfl:=Option.some.inj H
       obtain ⟨Ao78,co78,eo78⟩:=Kd.N_slice HO_7.1
       subst eo78
       go_wp2_with (first|((with_reducible refine zG Try.func13 95 #[.slice Ao8 t924.length co8,.slice Ao78 t939.length co78] ?_);(with_reducible refine (impl_SeqOk.calls k3 _ _ t924 _ _ t939 true _ ?side1 ?side2 ?side3 ?side4 A66.1).mono ?_);(case side1=>exact zC (Kd.R_reads' HO_3.1).2.2);(case side2=>exact (Kd.R_reads' HO_3.1).2.1);(case side3=>exact zC (Kd.N_reads' HO_7.1).2.2);(case side4=>exact (Kd.N_reads' HO_7.1).2.1);rintro e w79 ⟨rfl,hb⟩;refine ⟨_,rfl,?_⟩;replace HO_3:=zM (Kd.R_below (zR HO_3.1) hb);replace HO_7:=zM (Kd.N_below (by refine zrN ?_;exact HO_7.1) hb);replace BK955:=zM (zb BK955.1 hb);replace HB:=zM (below_step zB3 hb);clear hb)|((with_reducible refine gate_dst (N:=98) rfl ?_);(try (refine gate_guard (by rfl) ?_;dsimp only));refine Kd.R_lit k37 _ 37 ?hg (N:=98) ?hd (xs:=([(⟨3,77,(-1)⟩:S37)]:List (S37))) (inner:=[.int .i64 3,.int .i64 77,.int .i64 (-1)]) (ok:=fun _=>True) (okp:=fun _=>True) ?hr ?hp (fun _ hk=>hk) trivial (Below.refl _ _) (Nat.le_refl _) (by simp) ?_;(case hd=>rfl);(case hg=>rfl);(case hr=>exact zHH);(case hp=>exact (Reps.c3 (show Kd.M k37 _ _ _ (⟨3,77,(-1)⟩:S37) [.int .i64 3,.int .i64 77,.int .i64 (-1)] from (k37_mkM _ _ _ (⟨3,77,(-1)⟩:S37))) (Reps.none _ _)));intro v969 w80 ho81 hb hg_ hnew_;clear hg_ hnew_;(first|rw [←Ny968.1] at ho81|(simp only [Int.reduceToNat] at ho81;rw [←Ny968.1] at ho81));replace HO_3:=zM (Kd.R_below (zR HO_3.1) hb);replace HO_7:=zM (Kd.N_elder' (by refine zrN ?_;exact HO_7.1) (Kd.R_base ho81) hb);have HO970:=zM (Kd.R_lower (Kd.R_newB ho81 (g:=gb955) (o:= .cells #[.int .i64 t952,.int .i64 t953,.int .i64 t954] 37 (0,0)) (zK BK955.1)) (below_size zB3));replace BK955:=zM (zb BK955.1 hb);replace HB:=zM (below_step zB3 hb);clear hb ho81;obtain ⟨Ao82,co82,eo82⟩:=Kd.R_slice HO970.1;subst eo82)|((with_reducible refine gate_dst (N:=99) rfl ?_);(try (refine gate_guard (by rfl) ?_;dsimp only));refine Kd.N_lit (Kd.slice 37 k37) _ 41 ?hg (N':=99) ?hd (xs:=([y968]:List (List (S37)))) (inner:=[.slice Ao82 y968.length co82]) (ok:=(fun k_=>some k_≠(.slice Ao8 t924.length co8:Value).ownBlock∧some k_≠(.slice Ao78 t939.length co78:Value).ownBlock∧k_≠gb955)) (okp:=(fun k_=>some k_≠(.slice Ao8 t924.length co8:Value).ownBlock∧some k_≠(.slice Ao78 t939.length co78:Value).ownBlock∧k_≠gb955)) ?hr ?hp (fun _ hk=>hk) ((show ∀k_,w80.heap.size≤k_→(fun k_=>some k_≠(.slice Ao8 t924.length co8:Value).ownBlock∧some k_≠(.slice Ao78 t939.length co78:Value).ownBlock∧k_≠gb955) k_ from fun k_ hk=>⟨Kd.fresh' (Kd.R_lt (zR HO_3.1)) k_ hk,Kd.fresh' (Kd.N_lt (by refine zrN ?_;exact HO_7.1)) k_ hk,Kd.freshB (g:=gb955) (o:= .cells #[.int .i64 t952,.int .i64 t953,.int .i64 t954] 37 (0,0)) (zK BK955.1) k_ hk⟩) _ (Nat.le_refl _)) (Below.refl _ _) (Nat.le_refl _) (by simp) ?_;(case hd=>rfl);(case hg=>rfl);(case hr=>exact zHH);(case hp=>exact (Reps.one (show Kd.FK (Kd.slice 37 k37) _ _ y968 [.slice Ao82 y968.length co82] from (Kd.FK_slice_mk (Kd.R_reads' (Kd.R_mono (ok':=(fun k_=>some k_≠(.slice Ao8 t924.length co8:Value).ownBlock∧some k_≠(.slice Ao78 t939.length co78:Value).ownBlock∧k_≠gb955)) (Kd.R_apart' (Kd.R_apart' (HO970.1) (Kd.R_typed HO_3.1) (by decide)) (Kd.N_typed HO_7.1) (by decide)) (fun k_ hk=>⟨hk.1.2,⟨hk.2,hk.1.1.2⟩⟩))).2.1 (Kd.R_F (Kd.R_mono (ok':=(fun k_=>some k_≠(.slice Ao8 t924.length co8:Value).ownBlock∧some k_≠(.slice Ao78 t939.length co78:Value).ownBlock∧k_≠gb955)) (Kd.R_apart' (Kd.R_apart' (HO970.1) (Kd.R_typed HO_3.1) (by decide)) (Kd.N_typed HO_7.1) (by decide)) (fun k_ hk=>⟨hk.1.2,⟨hk.2,hk.1.1.2⟩⟩))))) (Reps.none _ _)));intro v972 w83 ho84 hb hg_ hnew_;clear hg_ hnew_;(first|rw [←Ny971.1] at ho84|(simp only [Int.reduceToNat] at ho84;rw [←Ny971.1] at ho84));replace HO_3:=zM (Kd.R_below (zR HO_3.1) hb);replace HO_7:=zM (Kd.N_elder' (by refine zrN ?_;exact HO_7.1) (Kd.N_base ho84) hb);have HO973:=zM (Kd.N_lower ho84 (below_size zB3));replace BK955:=zM (zb BK955.1 hb);replace HB:=zM (below_step zB3 hb);clear HO970;clear hb ho84;have p974:0≤(3:Int):=(by omega);have q974:3<(t924.length:Int):=zA;obtain ⟨ad974,e974,hx974_0⟩:=Kd.at_int (Kd.R_reads' HO_3.1).2.2 3 p974 q974;cases e974;(try simp only [show (3:Int).toNat=3 from rfl,Nat.reduceMul,Nat.reduceEqDiff,Go.Addr.add,↓reduceIte] at hx974_0);have qi974:(3<t924.length)=True:=eq_true (by omega);(try rw [show ((3:Int)).toNat=3 from rfl] at hx974_0);replace p974:=eq_true p974;replace q974:=eq_true q974;obtain ⟨Ao85,co85,eo85⟩:=Kd.N_slice HO973.1;subst eo85)|(go_at_call 13;(with_reducible refine (impl_SeqOk.calls k3 _ _ t924 _ _ y971 t975 _ ?side1 ?side2 ?side3 ?side4 A77.1).mono ?_);(case side1=>exact zC (Kd.R_reads' HO_3.1).2.2);(case side2=>exact (Kd.R_reads' HO_3.1).2.1);(case side3=>exact zC (Kd.N_reads' HO973.1).2.2);(case side4=>exact (Kd.N_reads' HO973.1).2.1);rintro e w86 ⟨rfl,hb⟩;replace HO_3:=zM (Kd.R_below (zR HO_3.1) hb);replace HO_7:=zM (Kd.N_below (by refine zrN ?_;exact HO_7.1) hb);replace HO973:=zM (Kd.N_below (by refine zrN ?_;exact HO973.1) hb);replace BK955:=zM (zb BK955.1 hb);replace HB:=zM (below_step zB3 hb);clear hb))
       go_ret
       exact ⟨zE,zB3⟩

/-- THE ONE PURE STATEMENT of laws_FnSeen: yours. -/
def laws_FnSeen.Pure:Prop:=∀(l0:List Int),l0.length≤maxLen→l0.length*1≤140737488351232→(∀x∈l0,(Lit.int .u8 x).wf=true)→∃k,laws_FnSeen.f k l0=some true
theorem laws_FnSeen.walk (P:laws_FnSeen.Pure) (a0:Option Addr) (len0 cap0:Nat) (z0:List Int) (w:World) (w0:(a0=none∧len0=0∧cap0=0∧z0=[])∨∃x,a0=some x∧len0≤cap0∧cap0≤maxLen∧z0.length=cap0∧(∀i,i<z0.length→w.cell? (x.add i)=some (.int .u8 (z0.getD i 0)))∧∀n∈z0,(Lit.int .u8 n).wf=true) (y0:len0*1≤140737488351232):
  Calls Try.prog 3 #[.slice a0 len0 cap0] w fun e w'=>e= .returned (.bool true)∧Below w.heap.size w w':=by
 obtain ⟨l0,rfl,hr0,hm0,hw0,hc0⟩:=ReadsInt.ofRowC w0
 obtain ⟨k,h⟩:=P l0 hm0 y0 hw0
 refine (laws_FnSeen.calls k _ _ l0 true w (Kd.C_of_reads (d:=(0:Int)) (h1:=fun _=>rfl) hr0) hc0 h).mono ?_
 rintro e w' ⟨rfl,hd⟩
 exact ⟨rfl,hd⟩

end Go.Proofs.Ytaakcbgpmabaaaa.PFnSeen
