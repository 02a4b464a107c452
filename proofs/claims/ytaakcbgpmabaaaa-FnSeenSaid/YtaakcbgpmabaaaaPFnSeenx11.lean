-- made by wip/tools/myprint.py out of the seat's translation
import Derived.Test.YtaakcbgpmabaaaaPFnSeenx0
import Derived.Test.YtaakcbgpmabaaaaPFnSeenx2
import Derived.Test.YtaakcbgpmabaaaaPFnSeenx5
namespace Go.Proofs.Ytaakcbgpmabaaaa.PFnSeen
open Go.RowKit Go.Proofs.YtaakcbgpmabaaaaW.PrintWords Go.Proofs.YtaakcbgpmabaaaaW.PrintLast Go.Proofs.YtaakcbgpmabaaaaW.PrintMore
attribute [local go_sem] max2_int min2_int max_two min_two max_three min_three max_four min_four -- for this text's walks alone
set_option linter.unusedVariables false
set_option linter.unusedSimpArgs false
set_option maxHeartbeats 8000000
set_option maxRecDepth 100000

/-! ### impl_ByHart: function 8 -/
def impl_ByHart.l0:Nat→Int→List (List (S37))→List (S74)→Int→Int→Option ((List (List (S37))))
 |0,_,_,_,_,_=>none
 |k+1,x0,x5,x13,x14,x15=>if x15<x14 then (if 0≤x15 then (if x15<(x13.length:Int) then (if ((rd_T74 x13 x15).f2)≥0 then ((impl_from.f ((rd_T74 x13 x15).f0) 0 (wrap64 (x0-1))).bind fun t485=>(if t485=true then (if 0≤((rd_T74 x13 x15).f0) then (if ((rd_T74 x13 x15).f0)<(x5.length:Int) then (if (rd_L7 x5 ((rd_T74 x13 x15).f0)).length<5864062014805 then (impl_ByHart.l0 k x0 (x5.set (((rd_T74 x13 x15).f0):Int).toNat ((rd_L7 x5 ((rd_T74 x13 x15).f0))++[(⟨(rd_T74 x13 x15).f2,(rd_T74 x13 x15).f3,(rd_T74 x13 x15).f4⟩:S37)])) x13 x14 (wrap64 (x15+1))) else (none)) else (none)) else (none)) else (impl_ByHart.l0 k x0 x5 x13 x14 (wrap64 (x15+1))))) else (impl_ByHart.l0 k x0 x5 x13 x14 (wrap64 (x15+1)))) else (none)) else (none)) else (some x5)
def impl_ByHart.f (k:Nat) (a0:Int) (l1:List (S74)):Option ((List (List (S37)))):=(impl_from.f a0 1 8).bind fun t479=>(if t479=true then (if 0≤a0 then (if (a0:Int).toNat≤11728124029610 then (impl_ByHart.l0 k a0 (List.replicate (a0:Int).toNat []) l1 (l1.length:Int) 0) else (none)) else (none)) else (some ([]:List (List (S37)))))
theorem impl_ByHart.mono_l: ∀k,(∀y0 y1 y2 y3 y4,LeO (impl_ByHart.l0 k y0 y1 y2 y3 y4) (impl_ByHart.l0 (k+1) y0 y1 y2 y3 y4))
 |0=>fun _ _ _ _ _ r h=>by simp [impl_ByHart.l0] at h
 |k+1=>by
  have ih0:=impl_ByHart.mono_l k
  ·intros
   unfold impl_ByHart.l0
   exact zL
theorem impl_ByHart.mono: ∀a0 a1 k,LeO (impl_ByHart.f k a0 a1) (impl_ByHart.f (k+1) a0 a1):=by
 intro a0 a1 k
 have ih0:=impl_ByHart.mono_l k
 unfold impl_ByHart.f
 exact zL
def impl_ByHart.T8:Bool×List (List Nat×List Nat):=(true,[([],[]),([],[]),([1],[1]),([],[]),([],[]),([4],[4]),([3,5],[3,5]),([6],[6]),([],[]),([8],[8]),([],[]),([10],[10]),([],[]),([12],[12]),([9,11,13],[9,11,13]),([14],[14]),([7,15],[7,15]),([0,2,0,1,2,3,4,5,6,7,8,9,10,11,12,13,14,15,16],[0,2]),([17,16,16,0,1,2,3,4,5,6,7,8,9,10,11,12,13,14,15,16],[16,17])])
def impl_ByHart.B8:List Nat:=[0,0,2,0,0,16,56,120,0,256,0,1024,0,4096,16128,32512,65528,131071,262143]
theorem impl_ByHart.tab8:rtab .any (opsOf Try.f8 8)=impl_ByHart.T8:=by kernel_rfl
theorem impl_ByHart.bits8:waitsOk impl_ByHart.T8.2 impl_ByHart.B8=true:=by kernel_rfl
theorem impl_ByHart.calls (k:Nat) (a0:Int) (A1:Option Addr) (c1:Nat) (l1:List (S74)) (r:List (List (S37))) (w:World) (hr1:Kd.C k74 w A1 l1.length l1) (hc1:l1.length≤c1) (h:impl_ByHart.f k a0 l1=some r):
  Calls Try.prog 8 #[.int .i64 a0,.slice A1 l1.length c1] w fun e w'=>∃v0_:Value,e= .returned (v0_)∧Kd.S (Kd.slice 37 k37) 41 w' w.heap.size (fun _=>True) v0_ r∧Below w.heap.size w w':=by
 have hu74:=Try.underlying74
 have hu37:=Try.underlying37
 have HR1:=zM hr1
 have HC1:=zM hc1
 clear hr1 hc1
 have HB:=zM (Below.refl w.heap.size w)
 unfold impl_ByHart.f at h
 have H:=h
 clear h
 replace H:=zO H
 obtain ⟨t479,A3,H⟩:=H
 by_cases c4:t479=true
 rotate_left
 ·replace c4:=Bool.eq_false_iff.mpr c4
  subst c4
  rw [if_neg zF] at H
  obtain rfl:=Option.some.inj H
  go_enter Try.func8,Try.ntmps8
  go_wp2_with (first|((with_reducible refine zG Try.func37 9 #[.int .i64 a0,.int .i64 1,.int .i64 8] ?_);(with_reducible refine (impl_from.calls a0 1 8 false _ A3.1).mono ?_);rintro e w' ⟨rfl,⟨nd,rfl⟩⟩;refine ⟨_,rfl,?_⟩))
  go_ret
  exact ⟨_,zE,by first|exact Kd.S_nil _ _ _ _ _|exact Kd.N_nil _ _ _ _ _|exact Kd.V_nil _ _ _ _ _|exact Kd.Q_nil _ _ _ _ _|exact Kd.R_nil _ _ _ _ _,zB3⟩
 subst c4
 rw [if_pos rfl] at H
 replace H:=zIp H
 obtain ⟨c5,H⟩:=H
 have c5b0:=eq_true c5
 have c5b1:decide (0≤a0)=true:=decide_eq_true c5
 clear c5
 replace H:=zIp H
 obtain ⟨c6,H⟩:=H
 have c6b0:=eq_true c6
 have c6b1:decide ((a0:Int).toNat≤11728124029610)=true:=decide_eq_true c6
 clear c6
 generalize hy480:((List.replicate (a0:Int).toNat []):List (List (S37)))=y480 at H
 have Ny480:=zM hy480.symm
 clear hy480
 have H':=zM H
 clear H
 go_enter Try.func8,Try.ntmps8
 go_wp2_with (first|((with_reducible refine zG Try.func37 9 #[.int .i64 a0,.int .i64 1,.int .i64 8] ?_);(with_reducible refine (impl_from.calls a0 1 8 true _ A3.1).mono ?_);rintro e w' ⟨rfl,⟨nd,rfl⟩⟩;refine ⟨_,rfl,?_⟩)|((with_reducible refine gate_dst (N:=12) rfl ?_);refine Kd.S_make (Kd.slice 37 k37) _ 41 rfl (N:=12) rfl 30 _ _ rfl a0 rfl rfl Try.underlying30 (.slice none 0 0) 24 info41 rfl (by decide) (by omega) [] (ok:=fun _=>True) (okp:=fun _=>True) ⟨_,rfl,Kd.R_nil _ _ _ _ _⟩ (fun _ hk=>hk) trivial zA (Nat.le_trans (Nat.mul_le_mul_right _ (zA:a0.toNat≤11728124029610)) (by omega)) (Below.refl _ _) (Nat.le_refl _) ?_;intro v481 w7 ho8 hb hg_ hnew_;clear hg_ hnew_;(first|rw [←Ny480.1] at ho8|(simp only [Int.reduceToNat] at ho8;rw [←Ny480.1] at ho8));have HO482:=zM (Kd.S_lower ho8 (below_size zB3));replace HB:=zM (below_step zB3 hb);clear hb ho8))
 go_loopg [15] k (fun kq v15 w'=>∃(x5_1:List (List (S37))) (x15_1:Int),v15= .int .i64 x15_1∧Aside0 (impl_ByHart.l0 kq a0 x5_1 l1 (l1.length:Int) x15_1=some r)∧Aside0 (kq≤k)∧Aside0 (Kd.S (Kd.slice 37 k37) 41 w' w.heap.size (fun _=>True) v481 x5_1)∧Aside0 (Below w.heap.size w w'))
 case atStart=>exact ⟨(y480),(0),zJJ,H',⟨Nat.le_refl _⟩,⟨zS HO482.1⟩,⟨zB3⟩⟩
 case round=>
  clear H'
  obtain ⟨x5_1,x15_1,rfl,HA,HK1,HO_5,HB⟩:=hrel
  cases gk with
  |zero=>exact absurd HA.1 (by simp [impl_ByHart.l0])
  |succ k1=>
   have H:=HA.1
   clear HA
   simp only [impl_ByHart.l0] at H
   by_cases c9:x15_1<(l1.length:Int)
   rotate_left
   ·rw [if_neg c9] at H
    have c9b0:=decide_eq_false c9
    clear c9
    obtain rfl:=Option.some.inj H
    go_wp2
    go_ret
    exact ⟨_,zE,zS HO_5.1,zB3⟩
   rw [if_pos c9] at H
   have c9b0:=decide_eq_true c9
   clear c9
   replace H:=zIt H
   obtain ⟨c10b0,H⟩:=H
   replace H:=zIt H
   obtain ⟨c11b0,H⟩:=H
   by_cases c12:((rd_T74 l1 x15_1).f2)≥0
   rotate_left
   ·rw [if_neg c12] at H
    have c12b0:=decide_eq_false c12
    clear c12
    have H':=zM H
    clear H
    obtain ⟨p483,q483,ad483,e483,hx483_0,hx483_1,hx483_2,hx483_3,hx483_4⟩:=zRd (at_T74 HR1.1 x15_1)
    cases e483
    replace hx483_0:=zHx HB.1 hx483_0
    replace hx483_1:=zHx HB.1 hx483_1
    replace hx483_2:=zHx HB.1 hx483_2
    replace hx483_3:=zHx HB.1 hx483_3
    replace hx483_4:=zHx HB.1 hx483_4
    go_wp2_with (first|((with_reducible refine zBx 7 74 #[.int .i64 0,.int .i64 0,.int .i64 0,.int .i64 0,.int .i64 0] ?_);intro gb484 hg w31 hbox hb;replace HO_5:=zM (Kd.S_below (zS HO_5.1) hb);have BK484:=zM hbox;have GW484:=zM (zW hg (below_size zB3));have GE484:=zM (zW hg (below_size zB3));replace HB:=zM (below_step zB3 hb);clear hb hbox hg;have hcz32:=zc_5 (w:=w31) BK484.1))
    go_roundg k1
    case measure=>have:=HK1.1;omega
    case rel=>exact ⟨(x5_1),(wrap64 (x15_1+1)),zJJ,H',⟨by have:=HK1.1;omega⟩,⟨by refine zrS ?_;exact Kd.S_mono (zfS (zfS (zfS (zfS (zfS (Kd.S_types HO_5.1 BK484.1 (by decide))))))) (fun _ hk=>trivial)⟩,⟨zB3⟩⟩
   rw [if_pos c12] at H
   have c12b0:=decide_eq_true c12
   clear c12
   replace H:=zO H
   obtain ⟨t485,A13,H⟩:=H
   by_cases c14:t485=true
   rotate_left
   ·replace c14:=Bool.eq_false_iff.mpr c14
    subst c14
    rw [if_neg zF] at H
    have H':=zM H
    clear H
    obtain ⟨p483,q483,ad483,e483,hx483_0,hx483_1,hx483_2,hx483_3,hx483_4⟩:=zRd (at_T74 HR1.1 x15_1)
    cases e483
    replace hx483_0:=zHx HB.1 hx483_0
    replace hx483_1:=zHx HB.1 hx483_1
    replace hx483_2:=zHx HB.1 hx483_2
    replace hx483_3:=zHx HB.1 hx483_3
    replace hx483_4:=zHx HB.1 hx483_4
    go_wp2_with (first|((with_reducible refine zBx 7 74 #[.int .i64 0,.int .i64 0,.int .i64 0,.int .i64 0,.int .i64 0] ?_);intro gb484 hg w29 hbox hb;replace HO_5:=zM (Kd.S_below (zS HO_5.1) hb);have BK484:=zM hbox;have GW484:=zM (zW hg (below_size zB3));have GE484:=zM (zW hg (below_size zB3));replace HB:=zM (below_step zB3 hb);clear hb hbox hg;have hcz30:=zc_5 (w:=w29) BK484.1)|(go_at_call 37;(with_reducible refine (impl_from.calls ((rd_T74 l1 x15_1).f0) 0 (wrap64 (a0-1)) false _ A13.1).mono ?_);rintro e w' ⟨rfl,⟨nd,rfl⟩⟩))
    go_roundg k1
    case measure=>have:=HK1.1;omega
    case rel=>exact ⟨(x5_1),(wrap64 (x15_1+1)),zJJ,H',⟨by have:=HK1.1;omega⟩,⟨by refine zrS ?_;exact Kd.S_mono (zfS (zfS (zfS (zfS (zfS (Kd.S_types HO_5.1 BK484.1 (by decide))))))) (fun _ hk=>trivial)⟩,⟨zB3⟩⟩
   subst c14
   rw [if_pos rfl] at H
   replace H:=zIt H
   obtain ⟨c15b0,H⟩:=H
   replace H:=zIt H
   obtain ⟨c16b0,H⟩:=H
   replace H:=zIn H
   obtain ⟨LMc17,H⟩:=H
   generalize hy487:(((rd_L7 x5_1 ((rd_T74 l1 x15_1).f0))++[(⟨(rd_T74 l1 x15_1).f2,(rd_T74 l1 x15_1).f3,(rd_T74 l1 x15_1).f4⟩:S37)]):List (S37))=y487 at H
   have Ny487:=zM hy487.symm
   clear hy487
   generalize hy490:((x5_1.set (((rd_T74 l1 x15_1).f0):Int).toNat y487):List (List (S37)))=y490 at H
   have Ny490:=zM hy490.symm
   clear hy490
   have H':=zM H
   clear H
   obtain ⟨p483,q483,ad483,e483,hx483_0,hx483_1,hx483_2,hx483_3,hx483_4⟩:=zRd (at_T74 HR1.1 x15_1)
   cases e483
   replace hx483_0:=zHx HB.1 hx483_0
   replace hx483_1:=zHx HB.1 hx483_1
   replace hx483_2:=zHx HB.1 hx483_2
   replace hx483_3:=zHx HB.1 hx483_3
   replace hx483_4:=zHx HB.1 hx483_4
   try go_wp2_with (first|((with_reducible refine zBx 7 74 #[.int .i64 0,.int .i64 0,.int .i64 0,.int .i64 0,.int .i64 0] ?_);intro gb484 hg w19 hbox hb;replace HO_5:=zM (Kd.S_below (zS HO_5.1) hb);have BK484:=zM hbox;have GW484:=zM (zW hg (below_size zB3));have GE484:=zM (zW hg (below_size zB3));replace HB:=zM (below_step zB3 hb);clear hb hbox hg;have hcz20:=zc_5 (w:=w19) BK484.1)|(go_at_call 37;(with_reducible refine (impl_from.calls ((rd_T74 l1 x15_1).f0) 0 (wrap64 (a0-1)) true _ A13.1).mono ?_);rintro e w' ⟨rfl,⟨nd,rfl⟩⟩))
   generalize hw_:(((((w19.setCell ⟨gb484,0,none⟩ (.int .i64 ((rd_T74 l1 x15_1).f0))).setCell ⟨gb484,1,none⟩ (.int .i64 ((rd_T74 l1 x15_1).f1))).setCell ⟨gb484,2,none⟩ (.int .i64 ((rd_T74 l1 x15_1).f2))).setCell ⟨gb484,3,none⟩ (.int .i64 ((rd_T74 l1 x15_1).f3))).setCell ⟨gb484,4,none⟩ (.int .i64 ((rd_T74 l1 x15_1).f4)))=w21
   have n0_:Aside0 (Kd.S (Kd.slice 37 k37) 41 w21 w.heap.size (fun _=>True) v481 x5_1):=⟨by rw [←hw_];refine zrS ?_;exact Kd.S_mono (zfS (zfS (zfS (zfS (zfS (Kd.S_types HO_5.1 BK484.1 (by decide))))))) (fun _ hk=>trivial)⟩
   have n1_:Aside0 (w21.heap[gb484]? =some (.cells #[.int .i64 ((rd_T74 l1 x15_1).f0),.int .i64 ((rd_T74 l1 x15_1).f1),.int .i64 ((rd_T74 l1 x15_1).f2),.int .i64 ((rd_T74 l1 x15_1).f3),.int .i64 ((rd_T74 l1 x15_1).f4)] 74 (0,0))):=⟨by rw [←hw_];exact zp5 (zK BK484.1)⟩
   have n2_:Aside0 (Below w.heap.size w w21):=⟨by rw [←hw_];exact zB3⟩
   (try clear HO_5)
   (try clear BK484)
   (try clear HB)
   clear hw_
   have HO_5:=n0_
   have BK484:=n1_
   have HB:=n2_
   clear n0_ n1_ n2_
   (try (rw [drewN_self w21];generalize hq_:World.drewN w21 _=w21;have n0_:Aside0 (Kd.S (Kd.slice 37 k37) 41 w21 w.heap.size (fun _=>True) v481 x5_1):=⟨by rw [←hq_];exact (zS HO_5.1)⟩;have n1_:Aside0 (w21.heap[gb484]? =some (.cells #[.int .i64 ((rd_T74 l1 x15_1).f0),.int .i64 ((rd_T74 l1 x15_1).f1),.int .i64 ((rd_T74 l1 x15_1).f2),.int .i64 ((rd_T74 l1 x15_1).f3),.int .i64 ((rd_T74 l1 x15_1).f4)] 74 (0,0))):=⟨by rw [←hq_];exact (zK BK484.1)⟩;have n2_:Aside0 (Below w.heap.size w w21):=⟨by rw [←hq_];exact zB3⟩;clear HO_5 BK484 HB hq_;have HO_5:=n0_;have BK484:=n1_;have HB:=n2_;clear n0_ n1_ n2_))
   replace HO_5:=zM (Kd.S_drew HO_5.1)
   replace BK484:=zM (blk_drew BK484.1)
   replace HB:=zM (below_drew1 HB.1)
   obtain ⟨Ao23,co23,eo23⟩:=Kd.S_slice HO_5.1
   (first|subst eo23|(injection eo23 with f1_ f2_ f3_;have f4_:=f1_.symm;have f5_:=f3_.symm;clear f1_ f2_ f3_;subst f4_;subst f5_))
   obtain ⟨p486,q486,ad486,A486_0,c486_0,e486,hx486_0,hl486_0,hi486_0⟩:=zRd (at_L7 (Kd.S_reads' HO_5.1).2.2 ((rd_T74 l1 x15_1).f0))
   cases e486
   obtain ⟨ce486,hce486,hMe486,hcc486⟩:=Kd.S_get HO_5.1 [] ((rd_T74 l1 x15_1).f0) zA (by first|exact zA|(have e_:=(Kd.S_reads' HO_5.1).1;omega))
   obtain ⟨ve486_0,rfl,ge486_0⟩:=hMe486
   have hv486_0:=hcc486 0 _ rfl
   rw [Nat.add_zero,show ((Kd.slice 37 k37)).sz=1 from rfl,Nat.mul_one] at hv486_0
   replace hv486_0:=Option.some.inj (hv486_0.symm.trans hx486_0)
   rw [hv486_0] at ge486_0
   have HL486_0:=zM (show Kd.R k37 37 _ _ _ _ (rd_L7 x5_1 ((rd_T74 l1 x15_1).f0)) from ge486_0)
   clear hv486_0 ge486_0
   have HX486_0:=zM hx486_0
   clear hcc486 hce486
   have HR486_0:=zM hi486_0
   have HC486_0:=zM hl486_0
   clear hi486_0 hl486_0
   obtain ⟨go24,co24,eo24,gb24,gl24,cl24,HG24⟩:=Kd.S_form HO_5.1 (by have h_:(((rd_T74 l1 x15_1).f0):Int)<((x5_1.length:Int):Int):=zA;have h2_:0≤(((rd_T74 l1 x15_1).f0):Int):=zA;omega)
   (first|cases eo24|(injection eo24 with ea_ en_ ec_;(first|subst ea_|(injection ea_ with ea_;subst ea_));subst ec_;clear en_))
   have GB24:=zM gb24
   have GG24:=zM HG24
   clear gb24 gl24 HG24
   (first|simp only [add_plain] at hx486_0|skip)
   obtain ⟨oki24,ce24,hcl24,hM24,hcc24,_,_,hH24⟩:=Kd.S_elem HO_5.1 [] (((rd_T74 l1 x15_1).f0):Int) zA (by have h_:(((rd_T74 l1 x15_1).f0):Int)<((x5_1.length:Int):Int):=zA;first|exact h_|(have e_:=(Kd.S_reads' HO_5.1).1;omega)|simpa using h_)
   obtain ⟨ve24_0,rfl,ge24_0⟩:=hM24
   have hv24:=hcc24 0 _ rfl
   have hX24:=HX486_0.out
   (try simp only [add_plain] at hX24)
   (try simp only [Nat.add_zero] at hv24)
   (try rw [show ((Kd.slice 37 k37)).sz=1 from rfl,Nat.mul_one] at hv24)
   replace hv24:=Option.some.inj (hv24.symm.trans hX24)
   subst hv24
   clear hX24 hcc24 hcl24
   have UU24:=zM (show Kd.R k37 37 _ w.heap.size oki24 (.slice A486_0 (rd_L7 x5_1 ((rd_T74 l1 x15_1).f0)).length c486_0) (rd_L7 x5_1 ((rd_T74 l1 x15_1).f0)) from ge24_0)
   have HH24:=zM hH24
   have HN24:=zM (Kd.S_reads' HO_5.1).1
   clear hH24 ge24_0
   refine start_ (n:=19) (S:=fun w'=>w'.cell? ⟨gb484,0,none⟩=some (.int .i64 ((rd_T74 l1 x15_1).f0))∧w'.cell? ⟨gb484,1,none⟩=some (.int .i64 ((rd_T74 l1 x15_1).f1))∧w'.cell? ⟨gb484,2,none⟩=some (.int .i64 ((rd_T74 l1 x15_1).f2))∧w'.cell? ⟨gb484,3,none⟩=some (.int .i64 ((rd_T74 l1 x15_1).f3))∧w'.cell? ⟨gb484,4,none⟩=some (.int .i64 ((rd_T74 l1 x15_1).f4))∧w'.cell? ⟨go24,(((rd_T74 l1 x15_1).f0)).toNat,none⟩=some (.slice A486_0 (rd_L7 x5_1 ((rd_T74 l1 x15_1).f0)).length c486_0)) (ds:=[18]) #[false,false,false,false,false,false,false,false,false,false,false,false,false,false,false,false,false,false,false] (by kernel_rfl) rfl rfl ⟨(blk_cell BK484.1 0).trans rfl,(blk_cell BK484.1 1).trans rfl,(blk_cell BK484.1 2).trans rfl,(blk_cell BK484.1 3).trans rfl,(blk_cell BK484.1 4).trans rfl,hx486_0⟩ (fun hHeld=>?_);refine with_tabW impl_ByHart.tab8 impl_ByHart.bits8 (fun HT_ HW_=>?_)
   generalize w21.drew=w22 at HO_5 BK484 HB GG24 HH24 HL486_0 HR486_0 HX486_0 UU24 hx486_0 hHeld ⊢
   refine zPu 0 ?_
   refine zPu 1 ?_
   refine zPu 3 ?_
   refine zPu 4 ?_
   refine zPu 8 ?_
   refine zPu 10 ?_
   refine zPu 12 ?_
   refine zTk6 2 hHeld ?_
   refine zTk6 5 hHeld ?_
   refine zPu 6 ?_
   refine zTk6 7 hHeld ?_
   refine zTk6 9 hHeld ?_
   refine zTk6 11 hHeld ?_
   refine zTk6 13 hHeld ?_
   refine zPu 14 ?_
   refine zOn 15 (some 44) fun K hK=>?_
   refine value_ (w1:=?_) (v:=?_) (by rfl) rfl ?_ ?_
   rotate_left 2
   ·go_simp
    constructor
    ·rfl
    ·rfl
   refine hK.out _ _ ⟨(blk_cell (blk_alloc BK484.1 _) 0).trans rfl,(blk_cell (blk_alloc BK484.1 _) 1).trans rfl,(blk_cell (blk_alloc BK484.1 _) 2).trans rfl,(blk_cell (blk_alloc BK484.1 _) 3).trans rfl,(blk_cell (blk_alloc BK484.1 _) 4).trans rfl,(World.cell?_alloc_lt _ _ _ (World.block_lt_of_cell? _ _ (hHeld.2.2.2.2.2))).trans (hHeld.2.2.2.2.2)⟩ (fun hHeld=>?_)
   clear hK K
   refine zNo ?_
   refine zOn 16 (some 45) fun K hK=>?_
   refine Kd.R_append_step k37 (w0:=w) w.heap.size (by rfl) (.tmp 36) (.tmp 44) 41 37 (.agg #[(.int .i64 0),(.int .i64 0),(.int .i64 0)]) 24 rfl Try.underlying41 info37 rfl (by decide) (by omega) (.slice A486_0 (rd_L7 x5_1 ((rd_T74 l1 x15_1).f0)).length c486_0) (rd_L7 x5_1 ((rd_T74 l1 x15_1).f0)) (⟨(rd_T74 l1 x15_1).f2,(rd_T74 l1 x15_1).f3,(rd_T74 l1 x15_1).f4⟩:S37) [.int .i64 ((rd_T74 l1 x15_1).f2),.int .i64 ((rd_T74 l1 x15_1).f3),.int .i64 ((rd_T74 l1 x15_1).f4)] (fun k_=>oki24 k_∨((fun _=>True)) k_∧w22.heap.size≤k_) (fun _=>False) rfl rfl ?aP (fun _ hk=>hk.elim) ?aF ?aO ?aB ?aS ?aL ?_
   (case aP=>exact k37_mkM _ _ _ (⟨(rd_T74 l1 x15_1).f2,(rd_T74 l1 x15_1).f3,(rd_T74 l1 x15_1).f4⟩:S37))
   (case aB=>exact zB3)
   (case aF=>exact (fun k_ hk=> .inr ⟨trivial,hk⟩))
   (case aO=>exact (by refine zrR ?_;exact Kd.R_mono UU24.out (fun _ hk=> .inl hk)))
   (case aS=>exact (below_size zB3))
   (case aL=>have:=LMc17.out;omega)
   intro v488 w25 ho hb hg hat
   (first|have HS5_:=cell_grown hg (hHeld.2.2.2.2.2) (by first|(rw [add_block];exact (fun e_=>((HL486_0.1.1 _ e_.symm).2) rfl))|(show some (Addr.add _ _).block≠_;rw [add_block];exact (fun e_=>((HL486_0.1.1 _ e_.symm).2) rfl))|exact (fun e_=>((HL486_0.1.1 _ e_.symm).2) rfl))|have HS5_:=cell_grown hg (cell_unalloc (hHeld.2.2.2.2.2) (by first|(rw [add_block];exact Kd.S_lt HO_5.1 _ rfl)|(show (Addr.add _ _).block<_;rw [add_block];exact Kd.S_lt HO_5.1 _ rfl)|exact Kd.S_lt HO_5.1 _ rfl)) (by first|(rw [add_block];exact (fun e_=>((HL486_0.1.1 _ e_.symm).2) rfl))|(show some (Addr.add _ _).block≠_;rw [add_block];exact (fun e_=>((HL486_0.1.1 _ e_.symm).2) rfl))|exact (fun e_=>((HL486_0.1.1 _ e_.symm).2) rfl)))
   rw [←Ny487.1] at ho
   replace BK484:=zM (zg BK484.1 hg (Kd.R_ne HL486_0.1 BK484.1 (by decide)))
   replace HB:=zM hb
   replace HH24:=zM (Kd.H_grown (Kd.H_widen (by repeat (first|exact HH24.out|refine Kd.H_alloc ?_ _|refine Kd.H_drewN ?_ _|refine Kd.H_drew ?_))) hg (fun k_ e_=> .inl (UU24.out.1 k_ e_)))
   replace HO489:=zM ho
   try clear HO_5;try clear UU24;try clear HL486_0
   have p18:0≤(((rd_T74 l1 x15_1).f0):Int):=zA
   have q18:(((rd_T74 l1 x15_1).f0):Int)<((x5_1.length:Int):Int):=zA
   replace p18:=eq_true p18
   replace q18:=eq_true q18
   obtain ⟨Ao28,co28,eo28⟩:=Kd.R_slice HO489.1
   (first|subst eo28|(injection eo28 with f1_ f2_ f3_;have f4_:=f1_.symm;have f5_:=f3_.symm;clear f1_ f2_ f3_;subst f4_;subst f5_))
   obtain ⟨_,_,hraw26,_,_,hcc26,_⟩:=Kd.H_raw HH24.out zA (by have h_:(((rd_T74 l1 x15_1).f0):Int)<((x5_1.length:Int):Int):=zA;first|exact h_|(have e_:=(HN24.out);omega)|simpa using h_)
   obtain ⟨_,hfr26⟩:=Kd.H_at HH24.out zA (by have h_:(((rd_T74 l1 x15_1).f0):Int)<((x5_1.length:Int):Int):=zA;first|exact h_|(have e_:=(HN24.out);omega)|simpa using h_)
   have hx26_0:=hcc26 0 _ rfl
   have hf26_0:=hfr26 0
   (try simp only [Nat.add_zero] at hx26_0 hf26_0)
   (try rw [show ((Kd.slice 37 k37)).sz=1 from rfl,Nat.mul_one] at hx26_0)
   (try rw [show ((Kd.slice 37 k37)).sz=1 from rfl,Nat.mul_one] at hf26_0)
   have HP26:=Kd.S_seg0 HH24.out zA (by have h_:(((rd_T74 l1 x15_1).f0):Int)<((x5_1.length:Int):Int):=zA;first|exact h_|(have e_:=(HN24.out);omega)|simpa using h_) (seg:=[.slice Ao28 y487.length co28]) (j:=0) (show 1≤1 from by decide) (x':=y487) (Kd.M_row HO489.1) (fun _ hk=>hk)
   (try simp only [show ((Kd.slice 37 k37)).sz=1 from rfl,Nat.mul_one,Nat.add_zero] at HP26)
   clear hcc26 hfr26
   have HNB484_go24:=zM (show gb484≠go24 from by have h_:=Kd.R_ne hraw26 BK484.1 (by decide);intro e_;exact h_ (by rw [e_];rfl))
   have HS26:=HP26.1
   rw [←Ny490.1] at HS26
   have HQ26:=zM HS26
   obtain ⟨_,hgg26⟩:=Kd.R_typed hraw26 go24 rfl
   have GG26_:=zM hgg26
   clear HP26 HS26 hgg26
   refine hK.out _ _ ⟨(blk_cell BK484.1 0).trans rfl,(blk_cell BK484.1 1).trans rfl,(blk_cell BK484.1 2).trans rfl,(blk_cell BK484.1 3).trans rfl,(blk_cell BK484.1 4).trans rfl,HS5_⟩ (fun hHeld=>?_)
   clear hK K
   refine zNo ?_
   refine zPu 17 ?_
   refine last_ (i:=18) (N:=none) #[true,true,true,true,true,true,true,true,true,true,true,true,true,true,true,true,true,true,true] rfl rfl (one_of HT_.1 (by kernel_rfl)) (by decide) (fun K hK=>?_)
   refine skip_ (w1:=?_) (by rfl) rfl ?_ ?_
   rotate_left
   ·go_simp
    rfl
   refine hK.out _ _ ?_
   clear hK K
   refine done_ (done_of HT_.1 (by kernel_rfl)) ?_
   try go_wp2
   go_roundg k1
   case measure=>have:=HK1.1;omega
   case rel=>exact ⟨(y490),(wrap64 (x15_1+1)),zJJ,H',⟨by have:=HK1.1;omega⟩,⟨zS HQ26.out⟩,⟨zB3⟩⟩

/-! ### spec_ByHart: function 12 -/
mutual
def spec_ByHart.l0:Nat→Int→List (S74)→List (List (S37))→Int→Option ((List (List (S37))))
 |0,_,_,_,_=>none
 |k+1,x0,x1,x5,x6=>if x6<x0 then ((spec_l1In.f x0 1 8).bind fun t494=>(spec_ByHart.j1 k x0 x1 x5 x6 t494)) else (spec_ByHart.j1 k x0 x1 x5 x6 false)
def spec_ByHart.j1:Nat→Int→List (S74)→List (List (S37))→Int→Bool→Option ((List (List (S37))))
 |0,_,_,_,_,_=>none
 |k+1,x0,x1,x5,x6,x17=>if x17=true then (spec_ByHart.l1 k x0 x1 x5 x6 (([]:List (S37))) 0) else (some x5)
def spec_ByHart.l1:Nat→Int→List (S74)→List (List (S37))→Int→List (S37)→Int→Option ((List (List (S37))))
 |0,_,_,_,_,_,_=>none
 |k+1,x0,x1,x5,x6,x7,x8=>if x8<(x1.length:Int) then (if 0≤x8 then (if ((rd_T74 x1 x8).f0)=x6 then (if ((rd_T74 x1 x8).f2)≥0 then (if x7.length<5864062014805 then (spec_ByHart.l1 k x0 x1 x5 x6 (x7++[(⟨(rd_T74 x1 x8).f2,(rd_T74 x1 x8).f3,(rd_T74 x1 x8).f4⟩:S37)]) (wrap64 (x8+1))) else (none)) else (spec_ByHart.l1 k x0 x1 x5 x6 x7 (wrap64 (x8+1)))) else (spec_ByHart.l1 k x0 x1 x5 x6 x7 (wrap64 (x8+1)))) else (none)) else (if x5.length<5864062014805 then (spec_ByHart.l0 k x0 x1 (x5++[x7]) (wrap64 (x6+1))) else (none))
end
def spec_ByHart.f (k:Nat) (a0:Int) (l1:List (S74)):Option ((List (List (S37)))):=spec_ByHart.l0 k a0 l1 (([]:List (List (S37)))) 0
theorem spec_ByHart.mono_l: ∀k,(∀y0 y1 y2 y3,LeO (spec_ByHart.l0 k y0 y1 y2 y3) (spec_ByHart.l0 (k+1) y0 y1 y2 y3))∧(∀y0 y1 y2 y3 y4,LeO (spec_ByHart.j1 k y0 y1 y2 y3 y4) (spec_ByHart.j1 (k+1) y0 y1 y2 y3 y4))∧(∀y0 y1 y2 y3 y4 y5,LeO (spec_ByHart.l1 k y0 y1 y2 y3 y4 y5) (spec_ByHart.l1 (k+1) y0 y1 y2 y3 y4 y5))
 |0=>⟨fun _ _ _ _ r h=>by simp [spec_ByHart.l0] at h,fun _ _ _ _ _ r h=>by simp [spec_ByHart.j1] at h,fun _ _ _ _ _ _ r h=>by simp [spec_ByHart.l1] at h⟩
 |k+1=>by
  obtain ⟨ih0,ih1,ih2⟩:=spec_ByHart.mono_l k
  refine ⟨?_,?_,?_⟩
  ·intros
   unfold spec_ByHart.l0
   exact zL
  ·intros
   unfold spec_ByHart.j1
   exact zL
  ·intros
   unfold spec_ByHart.l1
   exact zL
theorem spec_ByHart.mono: ∀a0 a1 k,LeO (spec_ByHart.f k a0 a1) (spec_ByHart.f (k+1) a0 a1):=by
 intro a0 a1 k
 obtain ⟨ih0,ih1,ih2⟩:=spec_ByHart.mono_l k
 unfold spec_ByHart.f
 exact zL
theorem spec_ByHart.calls (k:Nat) (a0:Int) (A1:Option Addr) (c1:Nat) (l1:List (S74)) (r:List (List (S37))) (w:World) (hr1:Kd.C k74 w A1 l1.length l1) (hc1:l1.length≤c1) (h:spec_ByHart.f k a0 l1=some r):
  Calls Try.prog 12 #[.int .i64 a0,.slice A1 l1.length c1] w fun e w'=>∃v0_:Value,e= .returned (v0_)∧Kd.S (Kd.slice 37 k37) 41 w' w.heap.size (fun _=>True) v0_ r∧Below w.heap.size w w':=by
 have hu74:=Try.underlying74
 have hu37:=Try.underlying37
 have HR1:=zM hr1
 have HC1:=zM hc1
 clear hr1 hc1
 have HB:=zM (Below.refl w.heap.size w)
 unfold spec_ByHart.f at h
 have H:=h
 clear h
 generalize hy491:((([]:List (List (S37)))):List (List (S37)))=y491 at H
 have Ny491:=zM hy491.symm
 clear hy491
 have H':=zM H
 clear H
 go_enter Try.func12,Try.ntmps12
 go_wp2_with (first|((with_reducible refine gate_dst (N:=10) rfl ?_);refine Kd.S_lit (Kd.slice 37 k37) _ 41 ?hg (N:=10) ?hd (xs:=([]:List (List (S37)))) (inner:=[]) (ok:=fun _=>True) (okp:=fun _=>True) ?hr ?hp (fun _ hk=>hk) trivial (Below.refl _ _) (Nat.le_refl _) (by simp) ?_;(case hd=>rfl);(case hg=>rfl);(case hr=>exact zHH);(case hp=>exact (Reps.none _ _));intro v492 w3 ho4 hb hg_ hnew_;clear hg_ hnew_;(first|rw [←Ny491.1] at ho4|(simp only [Int.reduceToNat] at ho4;rw [←Ny491.1] at ho4));have HO493:=zM (Kd.S_lower ho4 (below_size zB3));replace HB:=zM (below_step zB3 hb);clear hb ho4))
 go_loopg [5,6] k (fun kq v5 v6 w'=>∃(x5_1:List (List (S37))) (x6_1:Int),v6= .int .i64 x6_1∧Aside0 (spec_ByHart.l0 kq a0 l1 x5_1 x6_1=some r)∧Aside0 (kq≤k)∧Aside0 (Kd.S (Kd.slice 37 k37) 41 w' w.heap.size (fun _=>True) v5 x5_1)∧Aside0 (Below w.heap.size w w'))
 case atStart=>exact ⟨(y491),(0),zJJ,H',⟨Nat.le_refl _⟩,⟨zS HO493.1⟩,⟨zB3⟩⟩
 case round=>
  clear H'
  obtain ⟨x5_1,x6_1,rfl,HA,HK1,HO_5,HB⟩:=hrel
  cases gk with
  |zero=>exact absurd HA.1 (by simp [spec_ByHart.l0])
  |succ k1=>
   have H:=HA.1
   clear HA
   simp only [spec_ByHart.l0] at H
   have HC5:=zM H
   clear H
   go_upto_region 3 with (fail)
   go_cut [17] (fun v17 wc=>∃(kq:Nat) (x17_4:Bool),v17= .bool x17_4∧Aside0 (spec_ByHart.j1 kq a0 l1 x5_1 x6_1 x17_4=some r)∧Aside0 (kq≤k1)∧Aside0 (Kd.S (Kd.slice 37 k37) 41 wc w.heap.size (fun _=>True) u5 x5_1)∧Aside0 (Below w.heap.size w wc))
   case first=>
    have H:=HC5.1
    clear HC5
    by_cases c6:x6_1<a0
    rotate_left
    ·rw [if_neg c6] at H
     have c6b0:=decide_eq_false c6
     clear c6
     (first|rw [c6b0]|(simp only [i64_w,i32_w];rw [c6b0])|skip)
     have H':=zM H
     clear H
     go_wp2
     go_meet
     case rel=>exact ⟨_,(false),zJJ,H',⟨by have:=HK1.1;first|omega|exact Nat.le_refl _⟩,⟨zS HO_5.1⟩,⟨zB3⟩⟩
    rw [if_pos c6] at H
    have c6b0:=decide_eq_true c6
    clear c6
    (first|rw [c6b0]|(simp only [i64_w,i32_w];rw [c6b0])|skip)
    replace H:=zO H
    obtain ⟨t494,A7,H⟩:=H
    have H':=zM H
    clear H
    go_wp2_with (first|(go_at_call 46;(with_reducible refine (spec_l1In.calls a0 1 8 t494 _ A7.1).mono ?_);rintro e w' ⟨rfl,⟨nd,rfl⟩⟩))
    go_meet
    case rel=>exact ⟨_,(t494),zJJ,H',⟨by have:=HK1.1;first|omega|exact Nat.le_refl _⟩,⟨zS HO_5.1⟩,⟨zB3⟩⟩
   case rest=>
    clear HC5
    obtain ⟨kq,x17_4,rfl,HA,HJ4,HO_5,HB⟩:=hcut
    cases kq with
    |zero=>exact absurd HA.1 (by simp [spec_ByHart.j1])
    |succ kj4=>
     have H:=HA.1
     clear HA
     simp only [spec_ByHart.j1] at H
     by_cases c8:x17_4=true
     rotate_left
     ·replace c8:=Bool.eq_false_iff.mpr c8
      subst c8
      rw [if_neg zF] at H
      obtain rfl:=Option.some.inj H
      go_wp2
      go_ret
      exact ⟨_,zE,zS HO_5.1,zB3⟩
     subst c8
     rw [if_pos rfl] at H
     generalize hy495:((([]:List (S37))):List (S37))=y495 at H
     have Ny495:=zM hy495.symm
     clear hy495
     have H':=zM H
     clear H
     go_wp2_with (first|((with_reducible refine gate_dst (N:=20) rfl ?_);refine Kd.R_lit k37 _ 37 ?hg (N:=20) ?hd (xs:=([]:List (S37))) (inner:=[]) (ok:=fun _=>True) (okp:=fun _=>True) ?hr ?hp (fun _ hk=>hk) trivial (Below.refl _ _) (Nat.le_refl _) (by simp) ?_;(case hd=>rfl);(case hg=>rfl);(case hr=>exact zHH);(case hp=>exact (Reps.none _ _));intro v496 w9 ho10 hb hg_ hnew_;clear hg_ hnew_;(first|rw [←Ny495.1] at ho10|(simp only [Int.reduceToNat] at ho10;rw [←Ny495.1] at ho10));replace HO_5:=zM (Kd.S_elder' (zS HO_5.1) (Kd.R_base ho10) hb);have HO497:=zM (Kd.R_lower ho10 (below_size zB3));replace HB:=zM (below_step zB3 hb);clear hb ho10))
     go_loopg [7,8] kj4 (fun kq v7 v8 w'=>∃(x7_3:List (S37)) (x8_3:Int),v8= .int .i64 x8_3∧Aside0 (spec_ByHart.l1 kq a0 l1 x5_1 x6_1 x7_3 x8_3=some r)∧Aside0 (kq≤kj4)∧Aside0 (Kd.S (Kd.slice 37 k37) 41 w' w.heap.size (fun k_=>some k_≠(v7:Value).ownBlock) u5 x5_1)∧Aside0 (Kd.R k37 37 w' w.heap.size (fun _=>True) v7 x7_3)∧Aside0 (Below w.heap.size w w'))
     case atStart=>exact ⟨(y495),(0),zJJ,H',⟨Nat.le_refl _⟩,⟨by refine zrS ?_;exact Kd.S_mono HO_5.1 (fun _ hk=>hk.2)⟩,⟨zR HO497.1⟩,⟨zB3⟩⟩
     case round=>
      clear H'
      obtain ⟨x7_3,x8_3,rfl,HA,HK3,HO_5,HO_7,HB⟩:=hrel
      cases gk with
      |zero=>exact absurd HA.1 (by simp [spec_ByHart.l1])
      |succ k3=>
       have H:=HA.1
       clear HA
       simp only [spec_ByHart.l1] at H
       by_cases c11:x8_3<(l1.length:Int)
       rotate_left
       ·rw [if_neg c11] at H
        have c11b0:=decide_eq_false c11
        clear c11
        replace H:=zIn H
        obtain ⟨LMc23,H⟩:=H
        generalize hy503:((x5_1++[x7_3]):List (List (S37)))=y503 at H
        have Ny503:=zM hy503.symm
        clear hy503
        have H':=zM H
        clear H
        obtain ⟨Ao25,co25,eo25⟩:=Kd.R_slice HO_7.1
        subst eo25
        go_wp2_with (first|((with_reducible refine gate_builtin (b:= .append) (xs:=#[.tmp 50,.tmp 52]) rfl ?_);at_builtin;refine Kd.S_append (Kd.slice 37 k37) (w0:=w) w.heap.size rfl (.tmp 50) (.tmp 52) 30 41 (.slice none 0 0) 24 rfl Try.underlying30 info41 rfl (by decide) (by omega) u5 x5_1 x7_3 [.slice Ao25 x7_3.length co25] (fun _=>True) (fun k_=>some k_=(.slice Ao25 x7_3.length co25:Value).ownBlock) rfl rfl ?aP (fun k_ hk_=>((Kd.R_mono (ok':=fun k_=>((fun _=>True)) k_∧some k_≠(u5:Value).ownBlock) (Kd.R_apart' (HO_7.1) (Kd.S_typed HO_5.1) (by decide)) (fun k_ hk=>⟨trivial,hk.2⟩))).1 k_ hk_.symm) ?aF ?aO ?aB ?aS ?aL ?_;(case aP=>exact Kd.M_row (Kd.R_mono (Kd.R_tight rfl (Kd.R_mono (ok':=fun k_=>((fun _=>True)) k_∧some k_≠(u5:Value).ownBlock) (Kd.R_apart' (HO_7.1) (Kd.S_typed HO_5.1) (by decide)) (fun k_ hk=>⟨trivial,hk.2⟩))) (fun _ h_=>h_)));(case aB=>exact zB3);(case aF=>exact (fun _ _=>trivial));(case aO=>exact (by refine zrS ?_;exact Kd.S_mono HO_5.1 (fun k_ hk=>⟨trivial,fun e_=>hk e_⟩)));(case aS=>exact (below_size zB3));(case aL=>have:=LMc23.out;omega);intro v504 w24 ho hb hg hat;rw [←Ny503.1] at ho;replace HB:=zM hb;have HO505:=zM ho;clear HO_5 HO_7;clear ho hb hg hat))
        go_roundg k3
        case measure=>have:=HK1.1;have:=HJ4.1;have:=HK3.1;omega
        case rel=>exact ⟨(y503),(wrap64 (x6_1+1)),zJJ,H',⟨by have:=HK1.1;have:=HJ4.1;have:=HK3.1;omega⟩,⟨zS HO505.1⟩,⟨zB3⟩⟩
       rw [if_pos c11] at H
       have c11b0:=decide_eq_true c11
       clear c11
       replace H:=zIt H
       obtain ⟨c12b0,H⟩:=H
       by_cases c13:((rd_T74 l1 x8_3).f0)=x6_1
       rotate_left
       ·rw [if_neg c13] at H
        have c13b0:(((rd_T74 l1 x8_3).f0) == x6_1)=false:=beq_eq_false_iff_ne.mpr c13
        have c13b1:(((rd_T74 l1 x8_3).f0) != x6_1)=true:=bne_iff_ne.mpr c13
        have H':=zM H
        clear H
        obtain ⟨p498,q498,ad498,e498,hx498_0,hx498_1,hx498_2,hx498_3,hx498_4⟩:=zRd (at_T74 HR1.1 x8_3)
        cases e498
        replace hx498_0:=zHx HB.1 hx498_0
        replace hx498_1:=zHx HB.1 hx498_1
        replace hx498_2:=zHx HB.1 hx498_2
        replace hx498_3:=zHx HB.1 hx498_3
        replace hx498_4:=zHx HB.1 hx498_4
        go_wp2_with (first|((with_reducible refine zBx 9 74 #[.int .i64 0,.int .i64 0,.int .i64 0,.int .i64 0,.int .i64 0] ?_);intro gb499 hg w21 hbox hb;replace HO_5:=zM (Kd.S_below (zS HO_5.1) hb);replace HO_7:=zM (Kd.R_below (zR HO_7.1) hb);have BK499:=zM hbox;have GW499:=zM (zW hg (below_size zB3));have GE499:=zM (zW hg (below_size zB3));replace HB:=zM (below_step zB3 hb);clear hb hbox hg;have hcz22:=zc_5 (w:=w21) BK499.1))
        go_roundg k3
        case measure=>have:=HK1.1;have:=HJ4.1;have:=HK3.1;omega
        case rel=>exact ⟨(x7_3),(wrap64 (x8_3+1)),zJJ,H',⟨by have:=HK1.1;have:=HJ4.1;have:=HK3.1;omega⟩,⟨by refine zrS ?_;exact Kd.S_mono (zfS (zfS (zfS (zfS (zfS (Kd.S_types HO_5.1 BK499.1 (by decide))))))) (fun _ hk=>hk.1)⟩,⟨by refine zrR ?_;exact Kd.R_mono (zfR (zfR (zfR (zfR (zfR (Kd.R_types HO_7.1 BK499.1 (by decide))))))) (fun _ hk=>trivial)⟩,⟨zB3⟩⟩
       rw [if_pos c13] at H
       have c13b0:(((rd_T74 l1 x8_3).f0) == x6_1)=true:=beq_iff_eq.mpr c13
       have c13b1:(((rd_T74 l1 x8_3).f0) != x6_1)=false:=bne_eq_false_iff_eq.mpr c13
       clear c13
       by_cases c14:((rd_T74 l1 x8_3).f2)≥0
       rotate_left
       ·rw [if_neg c14] at H
        have c14b0:=decide_eq_false c14
        clear c14
        have H':=zM H
        clear H
        obtain ⟨p498,q498,ad498,e498,hx498_0,hx498_1,hx498_2,hx498_3,hx498_4⟩:=zRd (at_T74 HR1.1 x8_3)
        cases e498
        replace hx498_0:=zHx HB.1 hx498_0
        replace hx498_1:=zHx HB.1 hx498_1
        replace hx498_2:=zHx HB.1 hx498_2
        replace hx498_3:=zHx HB.1 hx498_3
        replace hx498_4:=zHx HB.1 hx498_4
        go_wp2_with (first|((with_reducible refine zBx 9 74 #[.int .i64 0,.int .i64 0,.int .i64 0,.int .i64 0,.int .i64 0] ?_);intro gb499 hg w19 hbox hb;replace HO_5:=zM (Kd.S_below (zS HO_5.1) hb);replace HO_7:=zM (Kd.R_below (zR HO_7.1) hb);have BK499:=zM hbox;have GW499:=zM (zW hg (below_size zB3));have GE499:=zM (zW hg (below_size zB3));replace HB:=zM (below_step zB3 hb);clear hb hbox hg;have hcz20:=zc_5 (w:=w19) BK499.1))
        go_roundg k3
        case measure=>have:=HK1.1;have:=HJ4.1;have:=HK3.1;omega
        case rel=>exact ⟨(x7_3),(wrap64 (x8_3+1)),zJJ,H',⟨by have:=HK1.1;have:=HJ4.1;have:=HK3.1;omega⟩,⟨by refine zrS ?_;exact Kd.S_mono (zfS (zfS (zfS (zfS (zfS (Kd.S_types HO_5.1 BK499.1 (by decide))))))) (fun _ hk=>hk.1)⟩,⟨by refine zrR ?_;exact Kd.R_mono (zfR (zfR (zfR (zfR (zfR (Kd.R_types HO_7.1 BK499.1 (by decide))))))) (fun _ hk=>trivial)⟩,⟨zB3⟩⟩
       rw [if_pos c14] at H
       have c14b0:=decide_eq_true c14
       clear c14
       replace H:=zIn H
       obtain ⟨LMc15,H⟩:=H
       generalize hy500:((x7_3++[(⟨(rd_T74 l1 x8_3).f2,(rd_T74 l1 x8_3).f3,(rd_T74 l1 x8_3).f4⟩:S37)]):List (S37))=y500 at H
       have Ny500:=zM hy500.symm
       clear hy500
       have H':=zM H
       clear H
       obtain ⟨p498,q498,ad498,e498,hx498_0,hx498_1,hx498_2,hx498_3,hx498_4⟩:=zRd (at_T74 HR1.1 x8_3)
       cases e498
       replace hx498_0:=zHx HB.1 hx498_0
       replace hx498_1:=zHx HB.1 hx498_1
       replace hx498_2:=zHx HB.1 hx498_2
       replace hx498_3:=zHx HB.1 hx498_3
       replace hx498_4:=zHx HB.1 hx498_4
       go_wp2_with (first|((with_reducible refine zBx 9 74 #[.int .i64 0,.int .i64 0,.int .i64 0,.int .i64 0,.int .i64 0] ?_);intro gb499 hg w16 hbox hb;replace HO_5:=zM (Kd.S_below (zS HO_5.1) hb);replace HO_7:=zM (Kd.R_below (zR HO_7.1) hb);have BK499:=zM hbox;have GW499:=zM (zW hg (below_size zB3));have GE499:=zM (zW hg (below_size zB3));replace HB:=zM (below_step zB3 hb);clear hb hbox hg;have hcz17:=zc_5 (w:=w16) BK499.1)|((with_reducible refine gate_builtin (b:= .append) (xs:=#[.tmp 40,.tmp 48]) rfl ?_);at_builtin;refine Kd.R_append k37 (w0:=w) w.heap.size rfl (.tmp 40) (.tmp 48) 41 37 (.agg #[(.int .i64 0),(.int .i64 0),(.int .i64 0)]) 24 rfl Try.underlying41 info37 rfl (by decide) (by omega) u7 x7_3 (⟨(rd_T74 l1 x8_3).f2,(rd_T74 l1 x8_3).f3,(rd_T74 l1 x8_3).f4⟩:S37) [.int .i64 ((rd_T74 l1 x8_3).f2),.int .i64 ((rd_T74 l1 x8_3).f3),.int .i64 ((rd_T74 l1 x8_3).f4)] (fun _=>True) (fun _=>False) rfl (by first|(go_simp;done)|(go_simp;rfl)) ?aP (fun _ hk=>hk.elim) ?aF ?aO ?aB ?aS ?aL ?_;(case aP=>exact k37_mkM _ _ _ (⟨(rd_T74 l1 x8_3).f2,(rd_T74 l1 x8_3).f3,(rd_T74 l1 x8_3).f4⟩:S37));(case aB=>exact zB3);(case aF=>exact (fun _ _=>trivial));(case aO=>exact (by refine zrR ?_;exact Kd.R_mono (zfR (zfR (zfR (zfR (zfR (Kd.R_types HO_7.1 BK499.1 (by decide))))))) (fun _ hk=>trivial)));(case aS=>exact (below_size zB3));(case aL=>have:=LMc15.out;omega);intro v501 w18 ho hb hg hat;rw [←Ny500.1] at ho;replace HO_5:=zM (Kd.S_after (ok:=(fun _=>True)) (by refine zrS ?_;exact Kd.S_mono (zfS (zfS (zfS (zfS (zfS (Kd.S_types HO_5.1 BK499.1 (by decide))))))) (fun _ hk=>⟨trivial,hk.1⟩)) hg hat);replace BK499:=zM (blk_grown (g:=gb499) (o:= .cells #[.int .i64 ((rd_T74 l1 x8_3).f0),.int .i64 ((rd_T74 l1 x8_3).f1),.int .i64 ((rd_T74 l1 x8_3).f2),.int .i64 ((rd_T74 l1 x8_3).f3),.int .i64 ((rd_T74 l1 x8_3).f4)] 74 (0,0)) (by exact zp5 (zK BK499.1)) hg (Kd.R_ne HO_7.1 BK499.1 (by decide)));replace HB:=zM hb;have HO502:=zM ho;clear HO_7;clear ho hb hg hat))
       go_roundg k3
       case measure=>have:=HK1.1;have:=HJ4.1;have:=HK3.1;omega
       case rel=>exact ⟨(y500),(wrap64 (x8_3+1)),zJJ,H',⟨by have:=HK1.1;have:=HJ4.1;have:=HK3.1;omega⟩,⟨by refine zrS ?_;exact Kd.S_mono HO_5.1 (fun _ hk=>hk.2)⟩,⟨zR HO502.1⟩,⟨zB3⟩⟩

/-! ### spec_Decode: function 108 -/
def spec_Decode.f (a0:Int):Option (Int×Int×Int×Int×Int×Bool):=(spec_l1In.f a0 0 65535).bind fun t507=>(if t507=true then ((spec_InsOk.f (Int.tmod a0 16) (Int.tmod (wrap64 (Int.tdiv a0 16)) 4) (Int.tmod (wrap64 (Int.tdiv a0 64)) 4) (Int.tmod (wrap64 (Int.tdiv a0 256)) 4) (wrap64 (Int.tdiv a0 1024))).bind fun t509=>(if t509=true then (some (Int.tmod a0 16,Int.tmod (wrap64 (Int.tdiv a0 16)) 4,Int.tmod (wrap64 (Int.tdiv a0 64)) 4,Int.tmod (wrap64 (Int.tdiv a0 256)) 4,wrap64 (Int.tdiv a0 1024),true)) else (some (0,0,0,0,0,false)))) else (some (0,0,0,0,0,false)))
theorem spec_Decode.calls (a0:Int) (r1:Int) (r2:Int) (r3:Int) (r4:Int) (r5:Int) (r6:Bool) (w:World) (h:spec_Decode.f a0=some (r1,r2,r3,r4,r5,r6)):
  Calls Try.prog 108 #[.int .i64 a0] w fun e w'=>e= .returned (.tuple #[.agg #[.int .i64 r1,.int .i64 r2,.int .i64 r3,.int .i64 r4,.int .i64 r5],.bool r6])∧Below w.heap.size w w':=by
 have hu57:=Try.underlying57
 have HB:=zM (Below.refl w.heap.size w)
 unfold spec_Decode.f at h
 have H:=h
 clear h
 replace H:=zO H
 obtain ⟨t507,A2,H⟩:=H
 by_cases c3:t507=true
 rotate_left
 ·replace c3:=Bool.eq_false_iff.mpr c3
  subst c3
  rw [if_neg zF] at H
  simp only [Option.some.injEq,Prod.mk.injEq] at H
  obtain ⟨rfl,rfl,rfl,rfl,rfl,rfl⟩:=H
  go_enter Try.func108,Try.ntmps108
  go_wp2_with (first|((with_reducible refine zBx 2 57 #[.int .i64 0,.int .i64 0,.int .i64 0,.int .i64 0,.int .i64 0] ?_);intro gb506 hg w19 hbox hb;have BK506:=zM hbox;have GW506:=zM (zW hg (below_size zB3));have GE506:=zM (zW hg (below_size zB3));replace HB:=zM (below_step zB3 hb);clear hb hbox hg)|((with_reducible refine zG Try.func46 6 #[.int .i64 a0,.int .i64 0,.int .i64 65535] ?_);(with_reducible refine (spec_l1In.calls a0 0 65535 false _ A2.1).mono ?_);rintro e w' ⟨rfl,⟨nd,rfl⟩⟩;refine ⟨_,rfl,?_⟩;(try (rw [drewN_self w19];generalize hq_:World.drewN w19 _=w19;have n0_:Aside0 (w19.heap[gb506]? =some (.cells #[.int .i64 0,.int .i64 0,.int .i64 0,.int .i64 0,.int .i64 0] 57 (0,0))):=⟨by rw [←hq_];exact (zK BK506.1)⟩;have n1_:Aside0 (Below w.heap.size w w19):=⟨by rw [←hq_];exact zB3⟩;clear BK506 HB hq_;have BK506:=n0_;have HB:=n1_;clear n0_ n1_));have hcz20:=zc_5 (w:=w19) BK506.1))
  refine bodyPost_ret (results_ct rfl _ _ gb506 57 #[.int .i64 0,.int .i64 0,.int .i64 0,.int .i64 0,.int .i64 0] (0,0) _ rfl (by exact zp5 (zK BK506.1)) Try.underlying57 rfl (by kernel_rfl)) rfl ?_
  exact ⟨zE,zB3⟩
 subst c3
 rw [if_pos rfl] at H
 replace H:=zO H
 obtain ⟨t509,A4,H⟩:=H
 by_cases c5:t509=true
 rotate_left
 ·replace c5:=Bool.eq_false_iff.mpr c5
  subst c5
  rw [if_neg zF] at H
  simp only [Option.some.injEq,Prod.mk.injEq] at H
  obtain ⟨rfl,rfl,rfl,rfl,rfl,rfl⟩:=H
  go_enter Try.func108,Try.ntmps108
  go_wp2_with (first|((with_reducible refine zBx 2 57 #[.int .i64 0,.int .i64 0,.int .i64 0,.int .i64 0,.int .i64 0] ?_);intro gb506 hg w13 hbox hb;have BK506:=zM hbox;have GW506:=zM (zW hg (below_size zB3));have GE506:=zM (zW hg (below_size zB3));replace HB:=zM (below_step zB3 hb);clear hb hbox hg)|((with_reducible refine zG Try.func46 6 #[.int .i64 a0,.int .i64 0,.int .i64 65535] ?_);(with_reducible refine (spec_l1In.calls a0 0 65535 true _ A2.1).mono ?_);rintro e w' ⟨rfl,⟨nd,rfl⟩⟩;refine ⟨_,rfl,?_⟩;(try (rw [drewN_self w13];generalize hq_:World.drewN w13 _=w13;have n0_:Aside0 (w13.heap[gb506]? =some (.cells #[.int .i64 0,.int .i64 0,.int .i64 0,.int .i64 0,.int .i64 0] 57 (0,0))):=⟨by rw [←hq_];exact (zK BK506.1)⟩;have n1_:Aside0 (Below w.heap.size w w13):=⟨by rw [←hq_];exact zB3⟩;clear BK506 HB hq_;have BK506:=n0_;have HB:=n1_;clear n0_ n1_)))|((with_reducible refine zBx 4 57 #[.int .i64 0,.int .i64 0,.int .i64 0,.int .i64 0,.int .i64 0] ?_);intro gb508 hg w14 hbox hb;have BK508:=zM hbox;have GW508:=zM (zW hg (below_size zB3));have GE508:=zM (zW hg (below_size zB3));replace HB:=zM (below_step zB3 hb);have NB506_508:=zM ((zn BK506.1 hg:gb506≠gb508));have NB508_506:=zM ((zm BK506.1 hg:gb508≠gb506));replace BK506:=zM (zb BK506.1 hb);clear hb hbox hg;have hnb15:=NB508_506.1;have hnc15:=NB506_508.1;have hcz16:=zc_5 (w:=w14) BK508.1)|((with_reducible refine zG Try.func66 24 #[.agg #[.int .i64 (Int.tmod a0 16),.int .i64 (Int.tmod (wrap64 (Int.tdiv a0 16)) 4),.int .i64 (Int.tmod (wrap64 (Int.tdiv a0 64)) 4),.int .i64 (Int.tmod (wrap64 (Int.tdiv a0 256)) 4),.int .i64 (wrap64 (Int.tdiv a0 1024))]] ?_);(with_reducible refine (spec_InsOk.calls (Int.tmod a0 16) (Int.tmod (wrap64 (Int.tdiv a0 16)) 4) (Int.tmod (wrap64 (Int.tdiv a0 64)) 4) (Int.tmod (wrap64 (Int.tdiv a0 256)) 4) (wrap64 (Int.tdiv a0 1024)) false _ A4.1).mono ?_);rintro e w17 ⟨rfl,hb⟩;refine ⟨_,rfl,?_⟩;replace BK506:=zM (zf BK506.1 hb);replace BK508:=zM (blk_below (g:=gb508) (o:= .cells #[.int .i64 (Int.tmod a0 16),.int .i64 (Int.tmod (wrap64 (Int.tdiv a0 16)) 4),.int .i64 (Int.tmod (wrap64 (Int.tdiv a0 64)) 4),.int .i64 (Int.tmod (wrap64 (Int.tdiv a0 256)) 4),.int .i64 (wrap64 (Int.tdiv a0 1024))] 57 (0,0)) (by exact zp5 (zK BK508.1)) hb);replace HB:=zM (below_step zB3 hb);clear hb;have hcz18:=zc_5 (w:=w17) BK506.1))
  refine bodyPost_ret (results_ct rfl _ _ gb506 57 #[.int .i64 0,.int .i64 0,.int .i64 0,.int .i64 0,.int .i64 0] (0,0) _ rfl (by exact zp5 (zK BK506.1)) Try.underlying57 rfl (by kernel_rfl)) rfl ?_
  exact ⟨zE,zB3⟩
 subst c5
 rw [if_pos rfl] at H
 simp only [Option.some.injEq,Prod.mk.injEq] at H
 obtain ⟨rfl,rfl,rfl,rfl,rfl,rfl⟩:=H
 go_enter Try.func108,Try.ntmps108
 go_wp2_with (first|((with_reducible refine zBx 2 57 #[.int .i64 0,.int .i64 0,.int .i64 0,.int .i64 0,.int .i64 0] ?_);intro gb506 hg w6 hbox hb;have BK506:=zM hbox;have GW506:=zM (zW hg (below_size zB3));have GE506:=zM (zW hg (below_size zB3));replace HB:=zM (below_step zB3 hb);clear hb hbox hg)|((with_reducible refine zG Try.func46 6 #[.int .i64 a0,.int .i64 0,.int .i64 65535] ?_);(with_reducible refine (spec_l1In.calls a0 0 65535 true _ A2.1).mono ?_);rintro e w' ⟨rfl,⟨nd,rfl⟩⟩;refine ⟨_,rfl,?_⟩;(try (rw [drewN_self w6];generalize hq_:World.drewN w6 _=w6;have n0_:Aside0 (w6.heap[gb506]? =some (.cells #[.int .i64 0,.int .i64 0,.int .i64 0,.int .i64 0,.int .i64 0] 57 (0,0))):=⟨by rw [←hq_];exact (zK BK506.1)⟩;have n1_:Aside0 (Below w.heap.size w w6):=⟨by rw [←hq_];exact zB3⟩;clear BK506 HB hq_;have BK506:=n0_;have HB:=n1_;clear n0_ n1_)))|((with_reducible refine zBx 4 57 #[.int .i64 0,.int .i64 0,.int .i64 0,.int .i64 0,.int .i64 0] ?_);intro gb508 hg w7 hbox hb;have BK508:=zM hbox;have GW508:=zM (zW hg (below_size zB3));have GE508:=zM (zW hg (below_size zB3));replace HB:=zM (below_step zB3 hb);have NB506_508:=zM ((zn BK506.1 hg:gb506≠gb508));have NB508_506:=zM ((zm BK506.1 hg:gb508≠gb506));replace BK506:=zM (zb BK506.1 hb);clear hb hbox hg;have hnb8:=NB508_506.1;have hnc8:=NB506_508.1;have hcz9:=zc_5 (w:=w7) BK508.1)|((with_reducible refine zG Try.func66 24 #[.agg #[.int .i64 (Int.tmod a0 16),.int .i64 (Int.tmod (wrap64 (Int.tdiv a0 16)) 4),.int .i64 (Int.tmod (wrap64 (Int.tdiv a0 64)) 4),.int .i64 (Int.tmod (wrap64 (Int.tdiv a0 256)) 4),.int .i64 (wrap64 (Int.tdiv a0 1024))]] ?_);(with_reducible refine (spec_InsOk.calls (Int.tmod a0 16) (Int.tmod (wrap64 (Int.tdiv a0 16)) 4) (Int.tmod (wrap64 (Int.tdiv a0 64)) 4) (Int.tmod (wrap64 (Int.tdiv a0 256)) 4) (wrap64 (Int.tdiv a0 1024)) true _ A4.1).mono ?_);rintro e w10 ⟨rfl,hb⟩;refine ⟨_,rfl,?_⟩;replace BK506:=zM (zf BK506.1 hb);replace BK508:=zM (blk_below (g:=gb508) (o:= .cells #[.int .i64 (Int.tmod a0 16),.int .i64 (Int.tmod (wrap64 (Int.tdiv a0 16)) 4),.int .i64 (Int.tmod (wrap64 (Int.tdiv a0 64)) 4),.int .i64 (Int.tmod (wrap64 (Int.tdiv a0 256)) 4),.int .i64 (wrap64 (Int.tdiv a0 1024))] 57 (0,0)) (by exact zp5 (zK BK508.1)) hb);replace HB:=zM (below_step zB3 hb);clear hb;have hcz11:=zc_5 (w:=w10) BK508.1;have hcz12:=zc_5 (w:=w10) BK506.1))
 refine bodyPost_ret (results_ct rfl _ _ gb506 57 #[.int .i64 (Int.tmod a0 16),.int .i64 (Int.tmod (wrap64 (Int.tdiv a0 16)) 4),.int .i64 (Int.tmod (wrap64 (Int.tdiv a0 64)) 4),.int .i64 (Int.tmod (wrap64 (Int.tdiv a0 256)) 4),.int .i64 (wrap64 (Int.tdiv a0 1024))] (0,0) _ rfl (by exact zp5 (zK BK506.1)) Try.underlying57 rfl (by kernel_rfl)) rfl ?_
 exact ⟨zE,zB3⟩

end Go.Proofs.Ytaakcbgpmabaaaa.PFnSeen
