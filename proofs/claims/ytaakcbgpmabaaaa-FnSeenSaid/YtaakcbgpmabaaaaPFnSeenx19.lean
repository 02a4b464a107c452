-- made by wip/tools/myprint.py out of the seat's translation
import Derived.Test.YtaakcbgpmabaaaaPFnSeenx0
import Derived.Shelf.Strings.Builder1
import Derived.Shelf.Strings.Builder2
import Derived.Shelf.Strings.OnBuilder
import Derived.Test.YtaakcbgpmabaaaaPFnSeenx4
import Derived.Test.YtaakcbgpmabaaaaPFnSeenx18
namespace Go.Proofs.Ytaakcbgpmabaaaa.PFnSeen
open Go.RowKit Go.Proofs.YtaakcbgpmabaaaaW.PrintWords Go.Proofs.YtaakcbgpmabaaaaW.PrintLast Go.Proofs.YtaakcbgpmabaaaaW.PrintMore
attribute [local go_sem] max2_int min2_int max_two min_two max_three min_three max_four min_four -- for this text's walks alone
set_option linter.unusedVariables false
set_option linter.unusedSimpArgs false
set_option maxHeartbeats 8000000
set_option maxRecDepth 100000
abbrev zq19_0:Array Bool:=#[true,true,true,true,true,true,true,true,false,false]
abbrev zq19_1:Array Bool:=#[true,true,false,true,true,true,true,true,false,false]

/-! ### spec_SeqOk: function 14 -/
def spec_SeqOk.l0:Nat→List Int→List (List (S37))→Int→Int→Option (Bool)
 |0,_,_,_,_=>none
 |k+1,x0,x1,x5,x6=>if x6<(x1.length:Int) then (if 0≤x6 then (spec_SeqOk.l0 k x0 x1 (wrap64 (x5+((rd_L7 x1 x6).length:Int))) (wrap64 (x6+1))) else (none)) else ((spec_l1Words.f k x0 24).bind fun t879=>(if t879=true then (if (x1.length:Int)>8 then (some false) else (if x5>12 then (some false) else ((some (([]:List Int):List Int)).bind fun y880=>(if y880.length+x0.length<17592186044416 then (if 0≤(x1.length:Int) then (if ((x1.length:Int):Int).toNat≤35184372088832 then ((spec_l21Go.f k (y880++x0) x1 (List.replicate ((x1.length:Int):Int).toNat 0) x5).bind fun bt889=>(some bt889.1)) else (none)) else (none)) else (none))))) else (some false)))
def spec_SeqOk.f (k:Nat) (l0:List Int) (l1:List (List (S37))):Option (Bool):=spec_SeqOk.l0 k l0 l1 0 0
theorem spec_SeqOk.mono_l: ∀k,(∀y0 y1 y2 y3,LeO (spec_SeqOk.l0 k y0 y1 y2 y3) (spec_SeqOk.l0 (k+1) y0 y1 y2 y3))
 |0=>fun _ _ _ _ r h=>by simp [spec_SeqOk.l0] at h
 |k+1=>by
  have ih0:=spec_SeqOk.mono_l k
  ·intros
   unfold spec_SeqOk.l0
   have mo0:=@spec_l1Words.mono
   have mo1:=@spec_l21Go.mono
   exact zL
theorem spec_SeqOk.mono: ∀a0 a1 k,LeO (spec_SeqOk.f k a0 a1) (spec_SeqOk.f (k+1) a0 a1):=by
 intro a0 a1 k
 have ih0:=spec_SeqOk.mono_l k
 unfold spec_SeqOk.f
 have mo0:=@spec_l1Words.mono
 have mo1:=@spec_l21Go.mono
 exact zL
def spec_SeqOk.T8:Bool×List (List Nat×List Nat):=(true,[([],[]),([],[]),([0,1],[0,1]),([],[]),([],[]),([4],[4]),([5,5],[5]),([],[]),([2,3,6,7,2],[2,3,6,7]),([8,8,0,1,2,3,4,5,6,7,8],[8])])
def spec_SeqOk.B8:List Nat:=[0,0,3,0,0,16,48,0,255,511]
theorem spec_SeqOk.tab8:rtab .any (opsOf Try.f14 8)=spec_SeqOk.T8:=by kernel_rfl
theorem spec_SeqOk.bits8:waitsOk spec_SeqOk.T8.2 spec_SeqOk.B8=true:=by kernel_rfl
theorem spec_SeqOk.calls (k:Nat) (A0:Option Addr) (c0:Nat) (l0:List Int) (A1:Option Addr) (c1:Nat) (l1:List (List (S37))) (r:Bool) (w:World) (hr0:Kd.C (Kd.int .i64) w A0 l0.length l0) (hc0:l0.length≤c0) (hr1:Kd.C (Kd.slice 37 k37) w A1 l1.length l1) (hc1:l1.length≤c1) (h:spec_SeqOk.f k l0 l1=some r):
  Calls Try.prog 14 #[.slice A0 l0.length c0,.slice A1 l1.length c1] w fun e w'=>e= .returned (.bool r)∧Below w.heap.size w w':=by
 have HR0:=zM hr0
 have HC0:=zM hc0
 clear hr0 hc0
 have HR1:=zM hr1
 have HC1:=zM hc1
 clear hr1 hc1
 have HB:=zM (Below.refl w.heap.size w)
 unfold spec_SeqOk.f at h
 have H:=h
 clear h
 have H':=zM H
 clear H
 go_enter Try.func14,Try.ntmps14
 go_wp2
 go_loopg [5,6] k (fun kq v5 v6 w'=>∃(x5_1:Int) (x6_1:Int),v5= .int .i64 x5_1∧v6= .int .i64 x6_1∧Aside0 (spec_SeqOk.l0 kq l0 l1 x5_1 x6_1=some r)∧Aside0 (kq≤k)∧Aside0 (Below w.heap.size w w'))
 case atStart=>exact ⟨(0),(0),zJJ,zJJ,H',⟨Nat.le_refl _⟩,⟨zB3⟩⟩
 case round=>
  clear H'
  obtain ⟨x5_1,x6_1,rfl,rfl,HA,HK1,HB⟩:=hrel
  cases gk with
  |zero=>exact absurd HA.1 (by simp [spec_SeqOk.l0])
  |succ k1=>
   have H:=HA.1
   clear HA
   simp only [spec_SeqOk.l0] at H
   by_cases c3:x6_1<(l1.length:Int)
   ·rw [if_pos c3] at H
    have c3b0:=decide_eq_true c3
    clear c3
    replace H:=zIt H
    obtain ⟨c4b0,H⟩:=H
    have H':=zM H
    clear H
    obtain ⟨p878,q878,ad878,A878_0,c878_0,e878,hx878_0,hl878_0,hi878_0⟩:=zRd (at_L7 HR1.1 x6_1)
    cases e878
    replace hx878_0:=zHx HB.1 hx878_0
    have HR878_0:=zM hi878_0
    have HC878_0:=zM hl878_0
    clear hi878_0 hl878_0
    go_wp2
    go_roundg k1
    case measure=>have:=HK1.1;omega
    case rel=>exact ⟨(wrap64 (x5_1+((rd_L7 l1 x6_1).length:Int))),(wrap64 (x6_1+1)),zJJ,zJJ,H',⟨by have:=HK1.1;omega⟩,⟨zB3⟩⟩
   rw [if_neg c3] at H
   have c3b0:=decide_eq_false c3
   clear c3
   replace H:=zO H
   obtain ⟨t879,A5,H⟩:=H
   by_cases c6:t879=true
   rotate_left
   ·replace c6:=Bool.eq_false_iff.mpr c6
    subst c6
    rw [if_neg zF] at H
    obtain rfl:=Option.some.inj H
    go_wp2_with (first|((with_reducible refine zG Try.func48 21 #[.slice A0 l0.length c0,.int .i64 24] ?_);(with_reducible refine (spec_l1Words.calls k1 _ _ l0 24 false _ ?side1 ?side2 A5.1).mono ?_);(case side1=>exact zC (Kd.C_below HR0.1 HB.1));(case side2=>exact HC0.1);rintro e w' ⟨rfl,⟨nd,rfl⟩⟩;refine ⟨_,rfl,?_⟩))
    go_ret
    exact ⟨zE,zB3⟩
   subst c6
   rw [if_pos rfl] at H
   by_cases c7:(l1.length:Int)>8
   ·rw [if_pos c7] at H
    have c7b0:=decide_eq_true c7
    have c7b1:decide (8<l1.length)=true:=decide_eq_true (by omega)
    clear c7
    obtain rfl:=Option.some.inj H
    go_wp2_with (first|((with_reducible refine zG Try.func48 21 #[.slice A0 l0.length c0,.int .i64 24] ?_);(with_reducible refine (spec_l1Words.calls k1 _ _ l0 24 true _ ?side1 ?side2 A5.1).mono ?_);(case side1=>exact zC (Kd.C_below HR0.1 HB.1));(case side2=>exact HC0.1);rintro e w' ⟨rfl,⟨nd,rfl⟩⟩;refine ⟨_,rfl,?_⟩))
    go_ret
    exact ⟨zE,zB3⟩
   rw [if_neg c7] at H
   have c7b0:=decide_eq_false c7
   have c7b1:decide (8<l1.length)=false:=decide_eq_false (by omega)
   clear c7
   by_cases c8:x5_1>12
   ·rw [if_pos c8] at H
    have c8b0:=decide_eq_true c8
    clear c8
    obtain rfl:=Option.some.inj H
    go_wp2_with (first|((with_reducible refine zG Try.func48 21 #[.slice A0 l0.length c0,.int .i64 24] ?_);(with_reducible refine (spec_l1Words.calls k1 _ _ l0 24 true _ ?side1 ?side2 A5.1).mono ?_);(case side1=>exact zC (Kd.C_below HR0.1 HB.1));(case side2=>exact HC0.1);rintro e w' ⟨rfl,⟨nd,rfl⟩⟩;refine ⟨_,rfl,?_⟩))
    go_ret
    exact ⟨zE,zB3⟩
   rw [if_neg c8] at H
   have c8b0:=decide_eq_false c8
   clear c8
   replace H:=zY H
   obtain ⟨y880,Ny880,H⟩:=H
   replace H:=zIn H
   obtain ⟨LMc9,H⟩:=H
   generalize hy883:((y880++l0):List Int)=y883 at H
   have Ny883:=zM hy883.symm
   clear hy883
   replace H:=zIp H
   obtain ⟨c10,H⟩:=H
   have c10b0:=eq_true c10
   have c10b1:decide (0≤(l1.length:Int))=true:=decide_eq_true c10
   clear c10
   replace H:=zIp H
   obtain ⟨c11,H⟩:=H
   have c11b0:=eq_true c11
   have c11b1:decide (((l1.length:Int):Int).toNat≤35184372088832)=true:=decide_eq_true c11
   clear c11
   generalize hy886:((List.replicate ((l1.length:Int):Int).toNat 0):List Int)=y886 at H
   have Ny886:=zM hy886.symm
   clear hy886
   replace H:=zO H
   obtain ⟨⟨t889,t890,t891⟩,A12,H⟩:=H
   try dsimp only at H
   obtain rfl:=Option.some.inj H
   try go_wp2_with (first|((with_reducible refine zG Try.func48 21 #[.slice A0 l0.length c0,.int .i64 24] ?_);(with_reducible refine (spec_l1Words.calls k1 _ _ l0 24 true _ ?side1 ?side2 A5.1).mono ?_);(case side1=>exact zC (Kd.C_below HR0.1 HB.1));(case side2=>exact HC0.1);rintro e w' ⟨rfl,⟨nd,rfl⟩⟩;refine ⟨_,rfl,?_⟩))
   (try (rw [drewN_self wr];generalize hq_:World.drewN wr _=wr;have n0_:Aside0 (Below w.heap.size w wr):=⟨by rw [←hq_];exact zB3⟩;clear HB hq_;have HB:=n0_;clear n0_))
   replace HB:=zM (below_drew1 HB.1)
   refine start_ (n:=10) (S:=fun w'=>True) (ds:=[]) #[false,false,false,false,false,false,false,false,false,false] (by kernel_rfl) rfl rfl trivial (fun hHeld=>?_);refine with_tabW spec_SeqOk.tab8 spec_SeqOk.bits8 (fun HT_ HW_=>?_)
   generalize wr.drew=w13 at HB hHeld ⊢
   refine zPu 1 ?_
   refine zPu 3 ?_
   refine zPu 4 ?_
   refine zPu 5 ?_
   refine zPu 7 ?_
   refine join_ (σ:=Value×Value×Value) 2 zq19_0 (fun s_=>[(32,s_.1),(34,s_.2.1),(38,s_.2.2)]) (fun s_ w'=>(Kd.R (Kd.int .i64) 3 w' w.heap.size (fun k_=>some k_≠(s_.2.2:Value).ownBlock) s_.2.1 y883)∧(Kd.R (Kd.int .i64) 3 w' w.heap.size (fun k_=>some k_≠(s_.2.1:Value).ownBlock) s_.2.2 y886)∧(Below w.heap.size w w')) ?_ ?_
   rotate_left
   ·intro hCont
    refine two_ (i:=0) (j:=6) (Ni:=some 32) (Nj:=some 38) #[true,true,false,true,true,true,false,true,false,false] #[false,true,false,true,true,true,true,true,false,false] rfl rfl rfl rfl (two_of HT_.1 (by kernel_rfl)) (by decide) (by decide) (fun K hK=>?_) (fun K hK=>?_)
    ·refine Kd.R_lit_step (Kd.int .i64) _ 3 ?hg (N:=32) ?hd (xs:=([]:List Int)) (inner:=[]) (ok:=fun _=>True) (okp:=fun _=>True) ?hr ?hp (fun _ hk=>hk) trivial (Below.refl _ _) (Nat.le_refl _) (by simp) ?_;(case hd=>rfl);(case hg=>rfl);(case hr=>exact zHH);(case hp=>exact (Reps.none _ _))
     intro v881 w14 ho15 hb hg_ hnew_
     clear hg_ hnew_
     (first|rw [←Ny880.1] at ho15|(simp only [Int.reduceToNat] at ho15;rw [←Ny880.1] at ho15))
     replace HO882:=zM (Kd.R_lower ho15 (below_size zB3))
     replace HB:=zM (below_step zB3 hb)
     refine hK.out _ _ trivial (fun hHeld=>?_)
     clear hK K
     refine zNo ?_
     refine two_ (i:=2) (j:=6) (Ni:=some 34) (Nj:=some 38) #[true,true,true,true,true,true,false,true,false,false] zq19_1 rfl rfl rfl rfl (two_of HT_.1 (by kernel_rfl)) (by decide) (by decide) (fun K hK=>?_) (fun K hK=>?_)
     ·refine Kd.R_append_rows_step (Kd.int .i64) (w0:=w) w.heap.size (by rfl) (.tmp 32) (.tmp 33) 24 3 (.int .i64 0) 8 rfl Try.underlying24 info3 rfl (by decide) (by omega) v881 y880 l0 _ _ _ (fun _=>True) (fun _=>False) rfl rfl ?aO ?aR (fun _ _ h=>h) (fun _ h=>h.elim) ?aF ?aB ?aS ?aL ?_
      (case aR=>exact zC (Kd.C_below HR0.1 HB.1))
      (case aB=>exact zB3)
      (case aF=>exact (fun _ _=>trivial))
      (case aO=>exact (zR HO882.1))
      (case aS=>exact (below_size zB3))
      (case aL=>have:=LMc9.out;omega)
      intro v884 w16 ho hb hg hat
      rw [←Ny883.1] at ho
      replace HB:=zM hb
      replace HO885:=zM ho
      try clear HO882
      refine hK.out _ _ trivial (fun hHeld=>?_)
      clear hK K
      refine zNo ?_
      refine zOn 6 (some 38) fun K hK=>?_
      refine Kd.R_make_step (Kd.int .i64) _ 3 (by rfl) (N:=38) rfl 24 _ _ rfl (l1.length:Int) rfl rfl Try.underlying24 (.int .i64 0) 8 info3 rfl (by decide) (by omega) 0 (ok:=fun _=>True) (okp:=fun _=>True) rfl (fun _ hk=>hk) trivial zA (Nat.le_trans (Nat.mul_le_mul_right _ (zA:(l1.length:Int).toNat≤35184372088832)) (by omega)) (Below.refl _ _) (Nat.le_refl _) ?_
      intro v887 w17 ho18 hb hg_ hnew_
      clear hg_ hnew_
      (first|rw [←Ny886.1] at ho18|(simp only [Int.reduceToNat] at ho18;rw [←Ny886.1] at ho18))
      replace HO888:=zM (Kd.R_lower (Kd.R_new' ho18 (Kd.R_lt (zR HO885.1))) (below_size zB3))
      replace HO885:=zM (Kd.R_elder' (zR HO885.1) (Kd.R_base ho18) hb)
      replace HB:=zM (below_step zB3 hb)
      refine hK.out _ _ trivial (fun hHeld=>?_)
      clear hK K
      refine zNo ?_
      exact norm_ zNr (hCont (v881,v884,v887) _ ⟨(by refine zrR ?_;exact Kd.R_mono HO885.1 (fun _ hk=>hk.2)),(by refine zrR ?_;exact Kd.R_mono HO888.1 (fun _ hk=>hk.2)),zB3⟩)
     ·refine Kd.R_make_step (Kd.int .i64) _ 3 (by rfl) (N:=38) rfl 24 _ _ rfl (l1.length:Int) rfl rfl Try.underlying24 (.int .i64 0) 8 info3 rfl (by decide) (by omega) 0 (ok:=fun _=>True) (okp:=fun _=>True) rfl (fun _ hk=>hk) trivial zA (Nat.le_trans (Nat.mul_le_mul_right _ (zA:(l1.length:Int).toNat≤35184372088832)) (by omega)) (Below.refl _ _) (Nat.le_refl _) ?_
      intro v887 w16 ho17 hb hg_ hnew_
      clear hg_ hnew_
      (first|rw [←Ny886.1] at ho17|(simp only [Int.reduceToNat] at ho17;rw [←Ny886.1] at ho17))
      replace HO888:=zM (Kd.R_lower (Kd.R_new' ho17 (Kd.R_lt (zR HO882.1))) (below_size zB3))
      replace HO882:=zM (Kd.R_elder' (zR HO882.1) (Kd.R_base ho17) hb)
      replace HB:=zM (below_step zB3 hb)
      refine hK.out _ _ trivial (fun hHeld=>?_)
      clear hK K
      refine zNo ?_
      refine zOn 2 (some 34) fun K hK=>?_
      refine Kd.R_append_rows_step (Kd.int .i64) (w0:=w) w.heap.size (by rfl) (.tmp 32) (.tmp 33) 24 3 (.int .i64 0) 8 rfl Try.underlying24 info3 rfl (by decide) (by omega) v881 y880 l0 _ _ _ (fun k_=>some k_≠(v887:Value).ownBlock) (fun _=>False) rfl rfl ?aO ?aR (fun _ _ h=>h) (fun _ h=>h.elim) ?aF ?aB ?aS ?aL ?_
      (case aR=>exact zC (Kd.C_below HR0.1 HB.1))
      (case aB=>exact zB3)
      (case aF=>exact (fun k_ hk=>Kd.fresh' (Kd.R_lt (zR HO888.1)) k_ hk))
      (case aO=>exact (by refine zrR ?_;exact Kd.R_mono HO882.1 (fun _ hk=>hk.2)))
      (case aS=>exact (below_size zB3))
      (case aL=>have:=LMc9.out;omega)
      intro v884 w18 ho hb hg hat
      rw [←Ny883.1] at ho
      replace HO888:=zM (Kd.R_after (ok:=(fun _=>True)) (zR HO888.1) hg hat)
      replace HB:=zM hb
      replace HO885:=zM ho
      try clear HO882
      refine hK.out _ _ trivial (fun hHeld=>?_)
      clear hK K
      refine zNo ?_
      exact norm_ zNr (hCont (v881,v884,v887) _ ⟨(zR HO885.1),(by refine zrR ?_;exact Kd.R_mono HO888.1 (fun _ hk=>hk.2)),zB3⟩)
    ·refine Kd.R_make_step (Kd.int .i64) _ 3 (by rfl) (N:=38) rfl 24 _ _ rfl (l1.length:Int) rfl rfl Try.underlying24 (.int .i64 0) 8 info3 rfl (by decide) (by omega) 0 (ok:=fun _=>True) (okp:=fun _=>True) rfl (fun _ hk=>hk) trivial zA (Nat.le_trans (Nat.mul_le_mul_right _ (zA:(l1.length:Int).toNat≤35184372088832)) (by omega)) (Below.refl _ _) (Nat.le_refl _) ?_
     intro v887 w14 ho15 hb hg_ hnew_
     clear hg_ hnew_
     (first|rw [←Ny886.1] at ho15|(simp only [Int.reduceToNat] at ho15;rw [←Ny886.1] at ho15))
     replace HO888:=zM (Kd.R_lower ho15 (below_size zB3))
     replace HB:=zM (below_step zB3 hb)
     refine hK.out _ _ trivial (fun hHeld=>?_)
     clear hK K
     refine zNo ?_
     refine zOn 0 (some 32) fun K hK=>?_
     refine Kd.R_lit_step (Kd.int .i64) _ 3 ?hg (N:=32) ?hd (xs:=([]:List Int)) (inner:=[]) (ok:=fun _=>True) (okp:=fun _=>True) ?hr ?hp (fun _ hk=>hk) trivial (Below.refl _ _) (Nat.le_refl _) (by simp) ?_;(case hd=>rfl);(case hg=>rfl);(case hr=>exact zHH);(case hp=>exact (Reps.none _ _))
     intro v881 w16 ho17 hb hg_ hnew_
     clear hg_ hnew_
     (first|rw [←Ny880.1] at ho17|(simp only [Int.reduceToNat] at ho17;rw [←Ny880.1] at ho17))
     replace HO882:=zM (Kd.R_lower (Kd.R_new' ho17 (Kd.R_lt (zR HO888.1))) (below_size zB3))
     replace HO888:=zM (Kd.R_elder' (zR HO888.1) (Kd.R_base ho17) hb)
     replace HB:=zM (below_step zB3 hb)
     refine hK.out _ _ trivial (fun hHeld=>?_)
     clear hK K
     refine zNo ?_
     refine zOn 2 (some 34) fun K hK=>?_
     refine Kd.R_append_rows_step (Kd.int .i64) (w0:=w) w.heap.size (by rfl) (.tmp 32) (.tmp 33) 24 3 (.int .i64 0) 8 rfl Try.underlying24 info3 rfl (by decide) (by omega) v881 y880 l0 _ _ _ (fun k_=>some k_≠(v887:Value).ownBlock) (fun _=>False) rfl rfl ?aO ?aR (fun _ _ h=>h) (fun _ h=>h.elim) ?aF ?aB ?aS ?aL ?_
     (case aR=>exact zC (Kd.C_below HR0.1 HB.1))
     (case aB=>exact zB3)
     (case aF=>exact (fun k_ hk=>Kd.fresh' (Kd.R_lt (zR HO888.1)) k_ hk))
     (case aO=>exact (by refine zrR ?_;exact Kd.R_mono HO882.1 (fun _ hk=>hk.2)))
     (case aS=>exact (below_size zB3))
     (case aL=>have:=LMc9.out;omega)
     intro v884 w18 ho hb hg hat
     rw [←Ny883.1] at ho
     replace HO888:=zM (Kd.R_after (ok:=(fun _=>True)) (zR HO888.1) hg hat)
     replace HB:=zM hb
     replace HO885:=zM ho
     try clear HO882
     refine hK.out _ _ trivial (fun hHeld=>?_)
     clear hK K
     refine zNo ?_
     exact norm_ zNr (hCont (v881,v884,v887) _ ⟨(zR HO885.1),(by refine zrR ?_;exact Kd.R_mono HO888.1 (fun _ hk=>hk.2)),zB3⟩)
   rintro ⟨v881,v884,v887⟩ w19 ⟨h0_,h1_,h2_⟩
   replace HO885:=zM h0_
   replace HO888:=zM h1_
   replace HB:=zM h2_
   have hHeld:=trivial
   obtain ⟨Ao20,co20,eo20⟩:=Kd.R_slice HO885.1
   (first|subst eo20|(injection eo20 with f1_ f2_ f3_;have f4_:=f1_.symm;have f5_:=f3_.symm;clear f1_ f2_ f3_;subst f4_;subst f5_))
   obtain ⟨Ao21,co21,eo21⟩:=Kd.R_slice HO888.1
   (first|subst eo21|(injection eo21 with f1_ f2_ f3_;have f4_:=f1_.symm;have f5_:=f3_.symm;clear f1_ f2_ f3_;subst f4_;subst f5_))
   refine zNp ?_
   refine zOn 8 (some 40) fun K hK=>?_
   refine zGs Try.func49 #[.slice Ao20 y883.length co20,.slice A1 l1.length c1,.slice Ao21 y886.length co21,.int .i64 x5_1] ?_
   with_reducible refine (spec_l21Go.calls k1 (fun k_=>some k_=(.slice Ao20 y883.length co20:Value).ownBlock) (.slice Ao20 y883.length co20) y883 _ _ l1 (fun k_=>some k_=(.slice Ao21 y886.length co21:Value).ownBlock) (.slice Ao21 y886.length co21) y886 x5_1 t889 t890 t891 w _ ?side1 ?side2 ?side3 ?side4 ?side5 ?side6 ?side7 A12.1).mono ?_
   (case side1=>exact zB3)
   (case side2=>exact Kd.R_tight rfl HO885.1)
   (case side3=>exact fun k_ e_=>(HO885.1.1 k_ e_.symm))
   (case side4=>exact Kd.C_kept_came (Kd.heap_slice 37 k37_heap) HR1.1 zB3 (fun k_ hs_=>Or.elim hs_ (fun e_=>(fun e_=>Kd.R_base HO885.1 k_ e_.symm) e_) (fun e_=>(fun e_=>Kd.R_base HO888.1 k_ e_.symm) e_)))
   (case side5=>exact HC1.1)
   (case side6=>exact Kd.R_tight rfl HO888.1)
   (case side7=>exact fun k_ e_=>(HO888.1.1 k_ e_.symm))
   rintro e w22 ⟨rfl,hy0,hy1,hb,hkp⟩
   refine ⟨_,rfl,?_⟩
   replace HO885:=zM (Kd.R_reok rfl hy0 (fun k_ e_=>HO885.1.1 k_ e_))
   replace HO888:=zM (Kd.R_reok rfl hy1 (fun k_ e_=>HO888.1.1 k_ e_))
   replace HB:=zM hb
   (try clear hkp)
   (try clear hy0)
   (try clear hy1)
   refine hK.out _ _ trivial (fun hHeld=>?_)
   clear hK K
   refine zNo ?_
   refine zPu 9 ?_
   refine done_ (done_of HT_.1 (by kernel_rfl)) ?_
   try go_wp2
   go_ret
   exact ⟨zE,zB3⟩

-- NOT PRINTED: function 117 (abi_NoEscape)

-- NOT PRINTED: function 112 (strings_Builder_copyCheck)

-- NOT PRINTED: function 118 (bytealg_MakeNoZero)

-- NOT PRINTED: function 113 (strings_Builder_grow)

-- NOT PRINTED: function 88 (strings_Builder_Grow)

-- NOT PRINTED: function 89 (strings_Builder_WriteString)

-- NOT PRINTED: function 90 (strings_Builder_String)

/-! ### strings_Join: function 50 -/
def sh.lays156_ren:Go.Shelf.Ren:=⟨fun|156=>50|165=>88|166=>89|169=>90|240=>112|241=>113|276=>117|277=>118|n=>n,fun|31=>84|9=>9|3=>3|4=>4|0=>0|20=>20|72=>119|76=>123|70=>117|37=>22|75=>122|127=>139|164=>143|5=>5|80=>125|n=>n,fun|n=>n⟩
theorem sh.lays156:Go.Proofs.Lays.n156 Try.prog sh.lays156_ren:={
 mixed:=by kernel_rfl
 f156:=Try.func50.trans (congrArg some (by kernel_rfl))
 f165:=Try.func88.trans (congrArg some (by kernel_rfl))
 f166:=Try.func89.trans (congrArg some (by kernel_rfl))
 f169:=Try.func90.trans (congrArg some (by kernel_rfl))
 f240:=Try.func112.trans (congrArg some (by kernel_rfl))
 f241:=Try.func113.trans (congrArg some (by kernel_rfl))
 f276:=Try.func117.trans (congrArg some (by kernel_rfl))
 f277:=Try.func118.trans (congrArg some (by kernel_rfl))
 t0:=Try.underlying0
 a0:=Try.isAgg0
 z0:=Try.sizeOf0
 v0:=Try.zeroValue0
 t3:=Try.underlying3
 a3:=Try.isAgg3
 z3:=Try.sizeOf3
 v3:=Try.zeroValue3
 t4:=Try.underlying4
 a4:=Try.isAgg4
 z4:=Try.sizeOf4
 v4:=Try.zeroValue4
 t9:=Try.underlying9
 a9:=Try.isAgg9
 z9:=Try.sizeOf9
 v9:=Try.zeroValue9
 t20:=Try.underlying20
 a20:=Try.isAgg20
 z20:=Try.sizeOf20
 v20:=Try.zeroValue20
 t31:=Try.underlying84
 a31:=Try.isAgg84
 z31:=Try.sizeOf84
 v31:=Try.zeroValue84
 t37:=Try.underlying22
 a37:=Try.isAgg22
 z37:=Try.sizeOf22
 v37:=Try.zeroValue22
 t70:=Try.underlying117
 a70:=Try.isAgg117
 z70:=Try.sizeOf117
 v70:=Try.zeroValue117
 t72:=Try.underlying119
 a72:=Try.isAgg119
 z72:=Try.sizeOf119
 v72:=Try.zeroValue119
 t75:=Try.underlying122
 a75:=Try.isAgg122
 z75:=Try.sizeOf122
 v75:=Try.zeroValue122
 t76:=Try.underlying123
 a76:=Try.isAgg123
 z76:=Try.sizeOf123
 v76:=Try.zeroValue123
 t127:=Try.underlying139
 a127:=Try.isAgg139
 z127:=Try.sizeOf139
 v127:=Try.zeroValue139
 t164:=Try.underlying143
 a164:=Try.isAgg143
 z164:=Try.sizeOf143
 v164:=Try.zeroValue143 }
theorem sh.Builder_Extra_156:Builder.Extra Try.prog sh.lays156_ren:={
 sizeBuilder:=by kernel_rfl
 liesBuilder:=by kernel_rfl
 t5:=Try.underlying5
 a5:=Try.isAgg5
 z5:=Try.sizeOf5
 v5:=Try.zeroValue5
 infoByte:=by kernel_rfl
 cellsByte:=by kernel_rfl
 sizeByte:=by kernel_rfl
 neB5:=by decide }
open Go.RowKit in
theorem sh.strings_Join_none (a:Option Addr) (c:Nat) (sep:ByteArray) (w:World):
 Calls Try.prog 50 #[.slice a 0 c,.string sep] w fun e w'=>e= .returned (.string ⟨#[]⟩)∧w'=w:=Any.strings_Join_none sh.lays156 sh.Builder_Extra_156 a c sep w
open Go.RowKit in
theorem sh.strings_Join (bk o c:Nat) (xs:List ByteArray) (sep:ByteArray) (w:World) (hcells: ∀(j:Nat) x,xs[j]? =some x→w.cell? ⟨bk,o+j,none⟩=some (.string x)) (hbk:bk<w.heap.size) (hN:xs.length≤140737488355328) (hcap:xs.length≤c) (hlen:(Lib.join (xs.map (·.data.toList)) sep.data.toList).length≤140737488355328):
 Calls Try.prog 50 #[.slice (some ⟨bk,o,none⟩) xs.length c,.string sep] w fun e w'=>e= .returned (.string ⟨(Lib.join (xs.map (·.data.toList)) sep.data.toList).toArray⟩)∧Below w.heap.size w w':=Any.strings_Join sh.lays156 sh.Builder_Extra_156 bk o c xs sep w hcells hbk hN hcap hlen
def joinB (l:List ByteArray) (s:ByteArray):ByteArray:=⟨(Lib.join (l.map (·.data.toList)) s.data.toList).toArray⟩
def strings_Join.f (l0:List ByteArray) (a1:ByteArray):Option ByteArray:=if l0.length≤140737488355328∧(joinB l0 a1).size≤140737488355328 then some (joinB l0 a1) else none
theorem strings_Join.calls (A0:Option Addr) (c0:Nat) (l0:List ByteArray) (a1:ByteArray) (r:ByteArray) (w:World) (hr0:Kd.C Kd.string w A0 l0.length l0) (hc0:l0.length≤c0) (h:strings_Join.f l0 a1=some r):
  Calls Try.prog 50 #[.slice A0 l0.length c0,.string a1] w fun e w'=>e= .returned (.string r)∧Below w.heap.size w w':=by
 unfold strings_Join.f at h
 by_cases hl:l0.length≤140737488355328∧(joinB l0 a1).size≤140737488355328
 rotate_left
 ·rw [if_neg hl] at h
  exact absurd h (by simp)
 rw [if_pos hl] at h
 obtain rfl:=Option.some.inj h
 by_cases h0:l0.length=0
 ·obtain rfl:=List.eq_nil_of_length_eq_zero h0
  exact (sh.strings_Join_none A0 c0 a1 w).mono fun e w' ⟨he,hw⟩=>⟨he,hw▸Below.refl _ _⟩
 obtain ⟨ad,rfl,hc⟩:=Kd.at_string hr0 0 (by omega) (by omega)
 obtain ⟨b,o,sp⟩:=ad
 have hsp:sp=none:=by
  cases sp with
  |none=>rfl
  |some x=>
   have e0:(⟨b,o,some x⟩:Addr).add (0:Int).toNat=⟨b,o,some x⟩:=rfl
   rw [e0] at hc
   unfold World.cell? at hc
   split at hc<;>simp at hc
 subst hsp
 have e0:(⟨b,o,none⟩:Addr).add (0:Int).toNat=⟨b,o,none⟩:=rfl
 rw [e0] at hc
 exact sh.strings_Join b o c0 l0 a1 w (fun j x hx=>by
  have hj:j<l0.length:=(List.getElem?_eq_some_iff.1 hx).1
  obtain ⟨ad,e,hc⟩:=Kd.at_string hr0 (j:Int) (by omega) (by omega)
  obtain rfl:=Option.some.inj e
  have ea:(⟨b,o,none⟩:Addr).add (j:Int).toNat=⟨b,o+j,none⟩:=by unfold Addr.add;split<;>simp_all
  rw [ea] at hc
  rw [hc]
  simp [rdOf,hx]) (World.block_lt_of_cell? w _ hc) hl.1 hc0 hl.2

/-! ### impl_digits: function 91 -/
mutual
def impl_digits.j0:Nat→Int→Bool→Option (ByteArray)
 |0,_,_=>none
 |k+1,x0,x3=>if x3=true then ((impl_digits.f k (wrap64 (-x0))).bind fun t892=>(if 1+t892.size≤9223372036854775807 then (some ((⟨#[45]⟩:ByteArray)++t892)) else (none))) else (if x0<0 then ((impl_digits.f k (wrap64 (Int.tdiv x0 10))).bind fun t893=>((impl_digits.f k (wrap64 (-(Int.tmod x0 10)))).bind fun t894=>(if t893.size+t894.size≤9223372036854775807 then (some (t893++t894)) else (none)))) else (if x0<10 then (some (Go.Utf8.encode (wrap32 (wrap64 (48+x0))))) else ((impl_digits.f k (wrap64 (Int.tdiv x0 10))).bind fun t895=>(if t895.size+(Go.Utf8.encode (wrap32 (wrap64 (48+(Int.tmod x0 10))))).size≤9223372036854775807 then (some (t895++(Go.Utf8.encode (wrap32 (wrap64 (48+(Int.tmod x0 10))))))) else (none)))))
def impl_digits.f:Nat→Int→Option (ByteArray)
 |0,_=>none
 |k+1,a0=>if a0<0 then (impl_digits.j0 k a0 (decide (a0>(-10)))) else (impl_digits.j0 k a0 false)
end
theorem impl_digits.mono_l: ∀k,(∀y0,LeO (impl_digits.f k y0) (impl_digits.f (k+1) y0))∧(∀y0 y1,LeO (impl_digits.j0 k y0 y1) (impl_digits.j0 (k+1) y0 y1))
 |0=>⟨fun _ r h=>by simp [impl_digits.f] at h,fun _ _ r h=>by simp [impl_digits.j0] at h⟩
 |k+1=>by
  obtain ⟨ih0,ih1⟩:=impl_digits.mono_l k
  refine ⟨?_,?_⟩
  ·intros
   unfold impl_digits.f
   exact zL
  ·intros
   unfold impl_digits.j0
   exact zL
theorem impl_digits.mono: ∀a0 k,LeO (impl_digits.f k a0) (impl_digits.f (k+1) a0):=by
 intro a0 k
 obtain ⟨ih0,ih1⟩:=impl_digits.mono_l k
 exact ih0 a0
theorem impl_digits.calls (k:Nat): ∀(a0:Int) (r:ByteArray) (w:World) (h:impl_digits.f k a0=some r),
  Calls Try.prog 91 #[.int .i64 a0] w fun e w'=>e= .returned (.string r)∧Drawn0 w w':=by
 induction k using Nat.strongRecOn with
 |_ k ih=>
 intro a0 r w h
 cases k with
 |zero=>exact absurd h (by simp [impl_digits.f])
 |succ k=>
 simp only [impl_digits.f] at h
 have H:=h
 clear h
 have HC2:=zM H
 clear H
 go_enter Try.func91,Try.ntmps91
 go_upto_region 1 with (fail)
 go_cut [3] (fun v3 wc=>∃(kq:Nat) (x3_1:Bool),v3= .bool x3_1∧Aside0 (impl_digits.j0 kq a0 x3_1=some r)∧Aside0 (kq≤k)∧Drawn0 w wc)
 case first=>
  have H:=HC2.1
  clear HC2
  by_cases c3:a0<0
  rotate_left
  ·rw [if_neg c3] at H
   have c3b0:=decide_eq_false c3
   clear c3
   (first|rw [c3b0]|(simp only [i64_w,i32_w];rw [c3b0])|skip)
   have H':=zM H
   clear H
   go_wp2
   go_meet
   case rel=>exact ⟨_,(false),zJJ,H',⟨by first|omega|exact Nat.le_refl _⟩,zDD⟩
  rw [if_pos c3] at H
  have c3b0:=decide_eq_true c3
  clear c3
  (first|rw [c3b0]|(simp only [i64_w,i32_w];rw [c3b0])|skip)
  have H':=zM H
  clear H
  go_wp2
  go_meet
  case rel=>exact ⟨_,(decide (a0>(-10))),zJJ,H',⟨by first|omega|exact Nat.le_refl _⟩,zDD⟩
 case rest=>
  clear HC2
  obtain ⟨kq,x3_1,rfl,HA,HJ1,⟨mc1,rfl⟩⟩:=hcut
  cases kq with
  |zero=>exact absurd HA.1 (by simp [impl_digits.j0])
  |succ kj1=>
   have H:=HA.1
   clear HA
   simp only [impl_digits.j0] at H
   by_cases c4:x3_1=true
   ·subst c4
    rw [if_pos rfl] at H
    replace H:=zO H
    obtain ⟨t892,A5,H⟩:=H
    replace H:=zIp H
    obtain ⟨c6,H⟩:=H
    have c6b0:=eq_true c6
    have c6b1:decide (1+t892.size≤9223372036854775807)=true:=decide_eq_true c6
    try have c6b2:(9223372036854775807<1+t892.size)=False:=eq_false (Nat.not_lt.2 c6)
    obtain rfl:=Option.some.inj H
    go_wp2_with (first|((with_reducible refine zG Try.func91 12 #[.int .i64 (wrap64 (-a0))] ?_);(with_reducible refine (ih kj1 (by have:=HJ1.1;omega) (wrap64 (-a0)) t892 _ A5.1).mono ?_);rintro e w' ⟨rfl,⟨nd,rfl⟩⟩;refine ⟨_,rfl,?_⟩))
    go_ret
    exact ⟨zJJ,zDD⟩
   replace c4:=Bool.eq_false_iff.mpr c4
   subst c4
   rw [if_neg zF] at H
   by_cases c7:a0<0
   ·rw [if_pos c7] at H
    have c7b0:=decide_eq_true c7
    clear c7
    replace H:=zO H
    obtain ⟨t893,A8,H⟩:=H
    replace H:=zO H
    obtain ⟨t894,A9,H⟩:=H
    replace H:=zIp H
    obtain ⟨c10,H⟩:=H
    have c10b0:=eq_true c10
    have c10b1:decide (t893.size+t894.size≤9223372036854775807)=true:=decide_eq_true c10
    try have c10b2:(9223372036854775807<t893.size+t894.size)=False:=eq_false (Nat.not_lt.2 c10)
    obtain rfl:=Option.some.inj H
    go_wp2_with (first|((with_reducible refine zG Try.func91 19 #[.int .i64 (wrap64 (Int.tdiv a0 10))] ?_);(with_reducible refine (ih kj1 (by have:=HJ1.1;omega) (wrap64 (Int.tdiv a0 10)) t893 _ A8.1).mono ?_);rintro e w' ⟨rfl,⟨nd,rfl⟩⟩;refine ⟨_,rfl,?_⟩)|((with_reducible refine zG Try.func91 23 #[.int .i64 (wrap64 (-(Int.tmod a0 10)))] ?_);(with_reducible refine (ih kj1 (by have:=HJ1.1;omega) (wrap64 (-(Int.tmod a0 10))) t894 _ A9.1).mono ?_);rintro e w' ⟨rfl,⟨nd,rfl⟩⟩;refine ⟨_,rfl,?_⟩))
    go_ret
    exact ⟨zJJ,zDD⟩
   rw [if_neg c7] at H
   have c7b0:=decide_eq_false c7
   clear c7
   by_cases c11:a0<10
   ·rw [if_pos c11] at H
    have c11b0:=decide_eq_true c11
    clear c11
    obtain rfl:=Option.some.inj H
    go_wp2
    go_ret
    exact ⟨zJJ,zDD⟩
   rw [if_neg c11] at H
   have c11b0:=decide_eq_false c11
   clear c11
   replace H:=zO H
   obtain ⟨t895,A12,H⟩:=H
   replace H:=zIp H
   obtain ⟨c13,H⟩:=H
   have c13b0:=eq_true c13
   have c13b1:decide (t895.size+(Go.Utf8.encode (wrap32 (wrap64 (48+(Int.tmod a0 10))))).size≤9223372036854775807)=true:=decide_eq_true c13
   try have c13b3:(9223372036854775807<t895.size+((Go.Utf8.encode (wrap32 (wrap64 (48+(Int.tmod a0 10))))).size))=False:=eq_false (by have h_:=c13;simp only [ByteArray.size_append] at h_;exact Nat.not_lt.2 h_)
   try have c13b2:(9223372036854775807<t895.size+(Go.Utf8.encode (wrap32 (wrap64 (48+(Int.tmod a0 10))))).size)=False:=eq_false (Nat.not_lt.2 c13)
   obtain rfl:=Option.some.inj H
   go_wp2_with (first|((with_reducible refine zG Try.func91 34 #[.int .i64 (wrap64 (Int.tdiv a0 10))] ?_);(with_reducible refine (ih kj1 (by have:=HJ1.1;omega) (wrap64 (Int.tdiv a0 10)) t895 _ A12.1).mono ?_);rintro e w' ⟨rfl,⟨nd,rfl⟩⟩;refine ⟨_,rfl,?_⟩))
   go_ret
   exact ⟨zJJ,zDD⟩

end Go.Proofs.Ytaakcbgpmabaaaa.PFnSeen
