-- made by wip/tools/myprint.py out of the seat's translation
import Derived.Test.YtpcgecacaemalaaPFnStopsx0
import Derived.Test.YtpcgecacaemalaaPFnStopsx2
namespace Go.Proofs.Ytpcgecacaemalaa.PFnStops
open Go.RowKit Go.Proofs.YtpcgecacaemalaaW.PrintWords Go.Proofs.YtpcgecacaemalaaW.PrintLast Go.Proofs.YtpcgecacaemalaaW.PrintMore
attribute [local go_sem] max2_int min2_int max_two min_two max_three min_three max_four min_four -- for this text's walks alone
set_option linter.unusedVariables false
set_option linter.unusedSimpArgs false
set_option maxHeartbeats 8000000
set_option maxRecDepth 100000
abbrev zq3_0:Array Bool:=#[false,false,false,false,false,false,false,false,false]
abbrev zq3_9:Array Bool:=#[true,true,true,true,true,true,true,true,true]

/-! ### spec_l24DrawWatch: function 55 -/
def spec_l24DrawWatch.l0:Nat→Int→List Int→Int→Int→List Int→List Int→Option (List Int×List Int×Int×Int)
 |0,_,_,_,_,_,_=>none
 |k+1,x4,x1000,x1001,x1002,x129000,x129001=>(spec_l1Below.f x1000 x1001 x1002 3).bind fun bt129=>(if x4<bt129.1 then ((spec_l1Below.f x1000 bt129.2.1 bt129.2.2 20).bind fun bt132=>(if x129000.length<17592186044416 then ((spec_l1PickInt.f x1000 bt132.2.1 bt132.2.2 (([0,8,12,20,23]:List Int))).bind fun bt141=>(if x129001.length<17592186044416 then (spec_l24DrawWatch.l0 k (wrap64 (x4+1)) x1000 bt141.2.1 bt141.2.2 (x129000++[bt132.1]) (x129001++[bt141.1])) else (none))) else (none))) else ((spec_l1Once.f x1000 bt129.2.1 bt129.2.2 10).bind fun bt147=>(if bt147.1=true then ((spec_l1PickInt.f x1000 bt147.2.1 bt147.2.2 (([(-1),24]:List Int))).bind fun bt153=>(if x129000.length<17592186044416 then (some ((x129000++[bt153.1]),x129001,bt153.2.1,bt153.2.2)) else (none))) else (some (x129000,x129001,bt147.2.1,bt147.2.2)))))
def spec_l24DrawWatch.f (k:Nat) (s0_0:List Int) (s0_1:Int) (s0_2:Int):Option (List Int×List Int×Int×Int):=spec_l24DrawWatch.l0 k 0 s0_0 s0_1 s0_2 ([]:List Int) ([]:List Int)
theorem spec_l24DrawWatch.mono_l: ∀k,(∀y0 y1 y2 y3 y4 y5,LeO (spec_l24DrawWatch.l0 k y0 y1 y2 y3 y4 y5) (spec_l24DrawWatch.l0 (k+1) y0 y1 y2 y3 y4 y5))
 |0=>fun _ _ _ _ _ _ r h=>by simp [spec_l24DrawWatch.l0] at h
 |k+1=>by
  have ih0:=spec_l24DrawWatch.mono_l k
  ·intros
   unfold spec_l24DrawWatch.l0
   exact zL
theorem spec_l24DrawWatch.mono: ∀a0 a1 a2 k,LeO (spec_l24DrawWatch.f k a0 a1 a2) (spec_l24DrawWatch.f (k+1) a0 a1 a2):=by
 intro a0 a1 a2 k
 have ih0:=spec_l24DrawWatch.mono_l k
 unfold spec_l24DrawWatch.f
 exact zL
def spec_l24DrawWatch.T5:Bool×List (List Nat×List Nat):=(true,[([],[]),([0],[0]),([],[]),([2],[2]),([3],[3]),([1,4,3],[1,4]),([0,1,2,3,4,5],[]),([6,5,5,0,1,2,3,4,5],[5,6])])
def spec_l24DrawWatch.B5:List Nat:=[0,1,0,4,12,31,63,127]
theorem spec_l24DrawWatch.tab5:rtab .any (opsOf Try.f55 5)=spec_l24DrawWatch.T5:=by kernel_rfl
theorem spec_l24DrawWatch.bits5:waitsOk spec_l24DrawWatch.T5.2 spec_l24DrawWatch.B5=true:=by kernel_rfl
def spec_l24DrawWatch.T6:Bool×List (List Nat×List Nat):=(true,[([],[]),([0],[0]),([],[]),([],[]),([2,3],[2,3]),([4],[4]),([1,5,4],[1,5]),([0,1,2,3,4,5,6],[]),([7,6,6,0,1,2,3,4,5,6],[6,7])])
def spec_l24DrawWatch.B6:List Nat:=[0,1,0,0,12,28,63,127,255]
theorem spec_l24DrawWatch.tab6:rtab .any (opsOf Try.f55 6)=spec_l24DrawWatch.T6:=by kernel_rfl
theorem spec_l24DrawWatch.bits6:waitsOk spec_l24DrawWatch.T6.2 spec_l24DrawWatch.B6=true:=by kernel_rfl
def spec_l24DrawWatch.T8:Bool×List (List Nat×List Nat):=(true,[([],[]),([0],[0]),([],[]),([],[]),([2,3],[2,3]),([4],[4]),([1,5,4],[1,5]),([0,1,2,3,4,5,6],[]),([7,6,6,0,1,2,3,4,5,6],[6,7])])
def spec_l24DrawWatch.B8:List Nat:=[0,1,0,0,12,28,63,127,255]
theorem spec_l24DrawWatch.tab8:rtab .any (opsOf Try.f55 8)=spec_l24DrawWatch.T8:=by kernel_rfl
theorem spec_l24DrawWatch.bits8:waitsOk spec_l24DrawWatch.T8.2 spec_l24DrawWatch.B8=true:=by kernel_rfl
theorem spec_l24DrawWatch.calls (k:Nat) (g:Nat) (s0_0:List Int) (s0_1:Int) (s0_2:Int) (r1:List Int) (r2:List Int) (r3:Int) (r4:Int) (w0 w:World) (hI:IsS106 w0 w g s0_0 s0_1 s0_2) (hB:Below w0.heap.size w0 w) (h:spec_l24DrawWatch.f k s0_0 s0_1 s0_2=some (r1,r2,r3,r4)):
  Calls Try.prog 55 #[.pointer (some ⟨g,0,none⟩)] w fun e w'=>∃v0_ v1_:Value,e= .returned (.agg #[v0_,v1_])∧Kd.R (Kd.int .i64) 3 w' w.heap.size (fun k_=>some k_≠(v1_:Value).ownBlock) v0_ r1∧Kd.R (Kd.int .i64) 3 w' w.heap.size (fun k_=>some k_≠(v0_:Value).ownBlock) v1_ r2∧IsS106 w0 w' g s0_0 r3 r4∧Below w0.heap.size w0 w'∧KeepBut w w' g none:=by
 have hu27:=Try.underlying27
 have HI0:=zM hI
 have HK:=zM (KeepBut.refl w g none)
 have HL:=zM hB.size
 clear hI
 have HW0:=zM hB.size
 have HB:=zM hB
 clear hB
 unfold spec_l24DrawWatch.f at h
 have H:=h
 clear h
 have H':=zM H
 clear H
 go_enter Try.func55,Try.ntmps55
 go_wp2_with (first|((with_reducible refine zBx 2 27 #[.slice none 0 0,.slice none 0 0] ?_);intro gb127 hg w2 hbox hb;replace HB:=zM (below_step zB7 hb);have BK127:=zM hbox;have GW127:=zM ((by rw [hg];exact (keep_size (w:=w) (g:=g) (row:=none) zB8):w.heap.size≤gb127));have GE127:=zM ((Nat.le_trans HW0.1 (by rw [hg];exact (keep_size (w:=w) (g:=g) (row:=none) zB8):w.heap.size≤gb127):w0.heap.size≤gb127));replace HK:=zM (KeepBut.trans zB8 (KeepBut.of_below hb g none) (.inl rfl));have NB0_127:=zM ((by rw [hg];exact Nat.ne_of_lt (IsS106.lt (show IsS106 w0 _ g s0_0 s0_1 s0_2 from zB6)):g≠gb127));have NB127_0:=zM ((by rw [hg];exact Nat.ne_of_gt (IsS106.lt (show IsS106 w0 _ g s0_0 s0_1 s0_2 from zB6)):gb127≠g));replace HI0:=zM (IsS106.below zB6 hb);clear hb hbox hg)|((with_reducible refine zBx 3 27 #[.slice none 0 0,.slice none 0 0] ?_);intro gb128 hg w3 hbox hb;replace HB:=zM (below_step zB7 hb);have BK128:=zM hbox;have GW128:=zM ((by rw [hg];exact (keep_size (w:=w) (g:=g) (row:=none) zB8):w.heap.size≤gb128));have GE128:=zM ((Nat.le_trans HW0.1 (by rw [hg];exact (keep_size (w:=w) (g:=g) (row:=none) zB8):w.heap.size≤gb128):w0.heap.size≤gb128));replace HK:=zM (KeepBut.trans zB8 (KeepBut.of_below hb g none) (.inl rfl));have NB127_128:=zM ((zn BK127.1 hg:gb127≠gb128));have NB128_127:=zM ((zm BK127.1 hg:gb128≠gb127));replace BK127:=zM (zb BK127.1 hb);have NB0_128:=zM ((by rw [hg];exact Nat.ne_of_lt (IsS106.lt (show IsS106 w0 _ g s0_0 s0_1 s0_2 from zB9)):g≠gb128));have NB128_0:=zM ((by rw [hg];exact Nat.ne_of_gt (IsS106.lt (show IsS106 w0 _ g s0_0 s0_1 s0_2 from zB9)):gb128≠g));replace HI0:=zM (IsS106.below zB9 hb);clear hb hbox hg;have hnb4:=NB128_127.1;have hnc4:=NB127_128.1;have hnb5:=NB128_0.1;have hnc5:=NB0_128.1;have hcz6:=zc_2 (w:=w3) BK128.1))
 go_loopg [4] k (fun kq v4 w'=>∃(x4_1:Int) (x1001_1:Int) (x1002_1:Int) (x129000_1:List Int) (x129001_1:List Int) (u129000:Value) (u129001:Value),v4= .int .i64 x4_1∧Aside0 (spec_l24DrawWatch.l0 kq x4_1 s0_0 x1001_1 x1002_1 x129000_1 x129001_1=some (r1,r2,r3,r4))∧Aside0 (kq≤k)∧Aside0 (Kd.R (Kd.int .i64) 3 w' w.heap.size (fun k_=>some k_≠(u129001:Value).ownBlock) u129000 x129000_1)∧Aside0 (Kd.R (Kd.int .i64) 3 w' w.heap.size (fun k_=>some k_≠(u129000:Value).ownBlock) u129001 x129001_1)∧Aside0 (w'.heap[gb127]? =some (.cells #[(.slice none 0 0),(.slice none 0 0)] 27 (0,0)))∧Aside0 (w'.heap[gb128]? =some (.cells #[u129000,u129001] 27 (0,0)))∧Aside0 (IsS106 w0 w' g s0_0 x1001_1 x1002_1)∧Aside0 (KeepBut w w' g none)∧Aside0 (Below w0.heap.size w0 w'))
 case atStart=>exact ⟨(0),(s0_1),(s0_2),(([]:List Int)),(([]:List Int)),(.slice none 0 0),(.slice none 0 0),zJJ,H',⟨Nat.le_refl _⟩,⟨by first|exact Kd.R_nil _ _ _ _ _|exact Kd.N_nil _ _ _ _ _|exact Kd.V_nil _ _ _ _ _|exact Kd.Q_nil _ _ _ _ _|exact Kd.S_nil _ _ _ _ _⟩,⟨by first|exact Kd.R_nil _ _ _ _ _|exact Kd.N_nil _ _ _ _ _|exact Kd.V_nil _ _ _ _ _|exact Kd.Q_nil _ _ _ _ _|exact Kd.S_nil _ _ _ _ _⟩,⟨zPq⟩,⟨by exact zp2 (zK BK128.1)⟩,⟨zB12⟩,⟨zB8⟩,⟨zB7⟩⟩
 case round=>
  clear H'
  obtain ⟨x4_1,x1001_1,x1002_1,x129000_1,x129001_1,u129000,u129001,rfl,HA,HK1,HO_129000,HO_129001,BK127,BK128,HI0,HK,HB⟩:=hrel
  cases gk with
  |zero=>exact absurd HA.1 (by simp [spec_l24DrawWatch.l0])
  |succ k1=>
   have H:=HA.1
   clear HA
   simp only [spec_l24DrawWatch.l0] at H
   replace H:=zO H
   obtain ⟨⟨t129,t130,t131⟩,A7,H⟩:=H
   try dsimp only at H
   by_cases c8:x4_1<t129
   rotate_left
   ·rw [if_neg c8] at H
    have c8b0:=decide_eq_false c8
    clear c8
    replace H:=zO H
    obtain ⟨⟨t147,t148,t149⟩,A28,H⟩:=H
    try dsimp only at H
    by_cases c29:t147=true
    rotate_left
    ·replace c29:=Bool.eq_false_iff.mpr c29
     subst c29
     rw [if_neg zF] at H
     simp only [Option.some.injEq,Prod.mk.injEq] at H
     obtain ⟨rfl,rfl,rfl,rfl⟩:=H
     go_wp2_with (first|((with_reducible refine zG Try.func90 8 #[.pointer (some ⟨g,0,none⟩),.int .i64 3] ?_);(with_reducible refine (spec_l1Below.calls g s0_0 x1001_1 x1002_1 3 t129 t130 t131 w0 _ ?side1 ?side2 A7.1).mono ?_);(case side1=>exact zB12);(case side2=>exact zB7);rintro e w48 ⟨rfl,hi,hb,hk⟩;refine ⟨_,rfl,?_⟩;replace HO_129000:=zM (Kd.R_mono (Kd.R_keep (IsS106.apart (show IsS106 w0 _ g s0_0 x1001_1 x1002_1 from zB12) (zR HO_129000.1) (by decide)) hk (fun _ h=>h.2)) (fun _ h=>h.1));replace HO_129001:=zM (Kd.R_mono (Kd.R_keep (IsS106.apart (show IsS106 w0 _ g s0_0 x1001_1 x1002_1 from zB12) (zR HO_129001.1) (by decide)) hk (fun _ h=>h.2)) (fun _ h=>h.1));replace BK127:=zM (zh hk BK127.1 NB127_0.1);replace BK128:=zM (zh hk BK128.1 NB128_0.1);replace HK:=zM (KeepBut.trans zB8 hk (.inl rfl));replace HB:=zM hb;replace HI0:=zM hi;clear hb hk hi)|((with_reducible refine zG Try.func56 28 #[.pointer (some ⟨g,0,none⟩),.int .i64 10] ?_);(with_reducible refine (spec_l1Once.calls g s0_0 t130 t131 10 false t148 t149 w0 _ ?side1 ?side2 A28.1).mono ?_);(case side1=>exact zB12);(case side2=>exact zB7);rintro e w49 ⟨rfl,hi,hb,hk⟩;refine ⟨_,rfl,?_⟩;replace HO_129000:=zM (Kd.R_mono (Kd.R_keep (IsS106.apart (show IsS106 w0 _ g s0_0 t130 t131 from zB12) (zR HO_129000.1) (by decide)) hk (fun _ h=>h.2)) (fun _ h=>h.1));replace HO_129001:=zM (Kd.R_mono (Kd.R_keep (IsS106.apart (show IsS106 w0 _ g s0_0 t130 t131 from zB12) (zR HO_129001.1) (by decide)) hk (fun _ h=>h.2)) (fun _ h=>h.1));replace BK127:=zM (zh hk BK127.1 NB127_0.1);replace BK128:=zM (zh hk BK128.1 NB128_0.1);replace HK:=zM (KeepBut.trans zB8 hk (.inl rfl));replace HB:=zM hb;replace HI0:=zM hi;clear hb hk hi;have hnb50:=NB128_127.1;have hnc50:=NB127_128.1;have hnb51:=NB128_0.1;have hnc51:=NB0_128.1;have hcz52:=zc_2 (w:=w49) BK128.1;obtain ⟨Ao53,co53,eo53⟩:=Kd.R_slice HO_129000.1;subst eo53;have hnb54:=NB127_0.1;have hnc54:=NB0_127.1;have hcz55:=zc_2 (w:=w49) BK127.1;obtain ⟨Ao56,co56,eo56⟩:=Kd.R_slice HO_129001.1;subst eo56))
     refine bodyPost_ret (results_cell_row rfl _ _ gb127 27 #[.slice Ao53 x129000_1.length co53,.slice Ao56 x129001_1.length co56] (0,0) _ rfl (by exact zp2 (zK BK127.1)) Try.underlying27 rfl (by kernel_rfl)) rfl ?_
     exact ⟨_,_,zE,by refine zrR ?_;exact Kd.R_mono (zfR (zfR (Kd.R_types HO_129000.1 BK127.1 (by decide)))) (fun _ hk=>hk.1),by refine zrR ?_;exact Kd.R_mono (zfR (zfR (Kd.R_types HO_129001.1 BK127.1 (by decide)))) (fun _ hk=>hk.1),zB12,zB7,zB8⟩
    subst c29
    rw [if_pos rfl] at H
    generalize hy150:((([(-1),24]:List Int)):List Int)=y150 at H
    have Ny150:=zM hy150.symm
    clear hy150
    replace H:=zO H
    obtain ⟨⟨t153,t154,t155⟩,A30,H⟩:=H
    try dsimp only at H
    replace H:=zIn H
    obtain ⟨LMc31,H⟩:=H
    generalize hy156:((x129000_1++[t153]):List Int)=y156 at H
    have Ny156:=zM hy156.symm
    clear hy156
    simp only [Option.some.injEq,Prod.mk.injEq] at H
    obtain ⟨rfl,rfl,rfl,rfl⟩:=H
    try go_wp2_with (first|((with_reducible refine zG Try.func90 8 #[.pointer (some ⟨g,0,none⟩),.int .i64 3] ?_);(with_reducible refine (spec_l1Below.calls g s0_0 x1001_1 x1002_1 3 t129 t130 t131 w0 _ ?side1 ?side2 A7.1).mono ?_);(case side1=>exact zB12);(case side2=>exact zB7);rintro e w32 ⟨rfl,hi,hb,hk⟩;refine ⟨_,rfl,?_⟩;replace HO_129000:=zM (Kd.R_mono (Kd.R_keep (IsS106.apart (show IsS106 w0 _ g s0_0 x1001_1 x1002_1 from zB12) (zR HO_129000.1) (by decide)) hk (fun _ h=>h.2)) (fun _ h=>h.1));replace HO_129001:=zM (Kd.R_mono (Kd.R_keep (IsS106.apart (show IsS106 w0 _ g s0_0 x1001_1 x1002_1 from zB12) (zR HO_129001.1) (by decide)) hk (fun _ h=>h.2)) (fun _ h=>h.1));replace BK127:=zM (zh hk BK127.1 NB127_0.1);replace BK128:=zM (zh hk BK128.1 NB128_0.1);replace HK:=zM (KeepBut.trans zB8 hk (.inl rfl));replace HB:=zM hb;replace HI0:=zM hi;clear hb hk hi)|((with_reducible refine zG Try.func56 28 #[.pointer (some ⟨g,0,none⟩),.int .i64 10] ?_);(with_reducible refine (spec_l1Once.calls g s0_0 t130 t131 10 true t148 t149 w0 _ ?side1 ?side2 A28.1).mono ?_);(case side1=>exact zB12);(case side2=>exact zB7);rintro e w33 ⟨rfl,hi,hb,hk⟩;refine ⟨_,rfl,?_⟩;replace HO_129000:=zM (Kd.R_mono (Kd.R_keep (IsS106.apart (show IsS106 w0 _ g s0_0 t130 t131 from zB12) (zR HO_129000.1) (by decide)) hk (fun _ h=>h.2)) (fun _ h=>h.1));replace HO_129001:=zM (Kd.R_mono (Kd.R_keep (IsS106.apart (show IsS106 w0 _ g s0_0 t130 t131 from zB12) (zR HO_129001.1) (by decide)) hk (fun _ h=>h.2)) (fun _ h=>h.1));replace BK127:=zM (zh hk BK127.1 NB127_0.1);replace BK128:=zM (zh hk BK128.1 NB128_0.1);replace HK:=zM (KeepBut.trans zB8 hk (.inl rfl));replace HB:=zM hb;replace HI0:=zM hi;clear hb hk hi))
    replace HO_129000:=zM (Kd.R_drew HO_129000.1)
    replace HO_129001:=zM (Kd.R_drew HO_129001.1)
    replace BK127:=zM (blk_drew BK127.1)
    replace BK128:=zM (blk_drew BK128.1)
    replace HI0:=zM (IsS106.drew HI0.1)
    replace HK:=zM (keep_drew HK.1)
    replace HB:=zM (below_drew1 HB.1)
    refine start_ (n:=9) (S:=fun w'=>w'.cell? ⟨gb128,0,none⟩=some (u129000)∧w'.cell? ⟨gb128,1,none⟩=some (u129001)) (ds:=[8]) zq3_0 (by kernel_rfl) rfl rfl ⟨(blk_cell BK128.1 0).trans rfl,(blk_cell BK128.1 1).trans rfl⟩ (fun hHeld=>?_);refine with_tabW spec_l24DrawWatch.tab8 spec_l24DrawWatch.bits8 (fun HT_ HW_=>?_)
    generalize w33.drew=w34 at HO_129000 HO_129001 BK127 BK128 HI0 HK HB hHeld ⊢
    refine zPu 0 ?_
    refine zPu 2 ?_
    refine zTk2 1 hHeld ?_
    refine zOn 3 (some 32) fun K hK=>?_
    refine Kd.R_lit_step (Kd.int .i64) _ 3 ?hg (N:=32) ?hd (xs:=([(-1),24]:List Int)) (inner:=[.int .i64 (-1),.int .i64 24]) (ok:=fun _=>True) (okp:=fun _=>True) ?hr ?hp (fun _ hk=>hk) trivial (Below.refl _ _) (Nat.le_refl _) (by simp) ?_;(case hd=>rfl);(case hg=>rfl);(case hr=>exact zHH);(case hp=>exact (Reps.one (show Kd.M (Kd.int .i64) _ _ _ (-1) [.int .i64 (-1)] from rfl) (Reps.one (show Kd.M (Kd.int .i64) _ _ _ 24 [.int .i64 24] from rfl) (Reps.none _ _))))
    intro v151 w35 ho36 hb hg_ hnew_
    clear hg_ hnew_
    (first|rw [←Ny150.1] at ho36|(simp only [Int.reduceToNat] at ho36;rw [←Ny150.1] at ho36))
    have n0_:=zM (Kd.R_elder' (zR HO_129000.1) (Kd.R_base ho36) hb)
    have n1_:=zM (Kd.R_elder' (zR HO_129001.1) (Kd.R_base ho36) hb)
    have n2_:=zM (Kd.R_lower (Kd.R_new' (Kd.R_new' ho36 (Kd.R_lt (zR HO_129000.1))) (Kd.R_lt (zR HO_129001.1))) (keep_size (w:=w) (g:=g) (row:=none) zB8))
    have n3_:=zM (zb BK127.1 hb)
    have n4_:=zM (zb BK128.1 hb)
    have n5_:=zM (IsS106.below zB12 hb)
    have n6_:=zM (KeepBut.trans zB8 (KeepBut.of_below hb g none) (.inl rfl))
    have n7_:=zM (below_step zB7 hb)
    clear HO_129000 HO_129001 BK127 BK128 HI0 HK HB
    have HO_129000:=n0_
    have HO_129001:=n1_
    have HO152:=n2_
    have BK127:=n3_
    have BK128:=n4_
    have HI0:=n5_
    have HK:=n6_
    have HB:=n7_
    clear n0_ n1_ n2_ n3_ n4_ n5_ n6_ n7_ hb ho36
    obtain ⟨Ao37,co37,eo37⟩:=Kd.R_slice HO152.1
    (first|subst eo37|(injection eo37 with f1_ f2_ f3_;have f4_:=f1_.symm;have f5_:=f3_.symm;clear f1_ f2_ f3_;subst f4_;subst f5_))
    refine hK.out _ _ zCs fun hHeld=>?_
    clear hK K
    refine zNo ?_
    refine zOn 4 (some 33) fun K hK=>?_
    refine zGs Try.func91 #[.pointer (some ⟨g,0,none⟩),.slice Ao37 y150.length co37] ?_
    with_reducible refine (spec_l1PickInt.calls g s0_0 t148 t149 _ _ y150 t153 t154 t155 w0 _ ?side1 ?side2 ?side3 ?side4 ?side5 A30.1).mono ?_
    (case side1=>exact zB12)
    (case side2=>exact zB7)
    (case side3=>exact zC (Kd.R_reads' HO152.1).2.2)
    (case side4=>exact (Kd.R_reads' HO152.1).2.1)
    (case side5=>exact far_slice (IsS106.own_ne HI0.1 HO152.1 (by decide)))
    rintro e w38 ⟨rfl,hi,hb,hk⟩
    refine ⟨_,rfl,?_⟩
    replace HO_129000:=zM (Kd.R_mono (Kd.R_keep (IsS106.apart (show IsS106 w0 _ g s0_0 t148 t149 from zB12) (zR HO_129000.1) (by decide)) hk (fun _ h=>h.2)) (fun _ h=>h.1))
    replace HO_129001:=zM (Kd.R_mono (Kd.R_keep (IsS106.apart (show IsS106 w0 _ g s0_0 t148 t149 from zB12) (zR HO_129001.1) (by decide)) hk (fun _ h=>h.2)) (fun _ h=>h.1))
    replace BK127:=zM (zh hk BK127.1 NB127_0.1)
    replace BK128:=zM (zh hk BK128.1 NB128_0.1)
    replace HO152:=zM (Kd.R_mono (Kd.R_keep (IsS106.apart (show IsS106 w0 _ g s0_0 t148 t149 from zB12) (zR HO152.1) (by decide)) hk (fun _ h=>h.2)) (fun _ h=>h.1))
    replace HK:=zM (KeepBut.trans zB8 hk (.inl rfl))
    replace HB:=zM hb
    replace HI0:=zM hi
    refine hK.out _ _ zCs fun hHeld=>?_
    clear hK K
    refine zNo ?_
    refine zOn 5 (some 34) fun K hK=>?_
    refine value_ (w1:=?_) (v:=?_) (by rfl) rfl ?_ ?_
    rotate_left 2
    ·go_simp
     constructor
     ·rfl
     ·rfl
    refine hK.out _ _ ⟨(blk_cell (blk_alloc BK128.1 _) 0).trans rfl,(blk_cell (blk_alloc BK128.1 _) 1).trans rfl⟩ (fun hHeld=>?_)
    clear hK K
    refine zNo ?_
    refine zOn 6 (some 35) fun K hK=>?_
    refine Kd.R_append_step (Kd.int .i64) w.heap.size (by rfl) (.tmp 30) (.tmp 34) 24 3 (.int .i64 0) 8 rfl Try.underlying24 info3 rfl (by decide) (by omega) u129000 x129000_1 t153 [.int .i64 t153] (fun k_=>some k_≠(u129001:Value).ownBlock∧some k_≠(.slice Ao37 y150.length co37:Value).ownBlock) (fun _=>False) rfl rfl ?aP (fun _ hk=>hk.elim) ?aF ?aO (Below.refl _ _) ?aS ?aL ?_
    (case aP=>exact rfl)
    (case aF=>exact (fun k_ hk=>⟨Kd.fresh' (Kd.R_lt (zR HO_129001.1)) k_ hk,Kd.fresh' (Kd.R_lt (zR HO152.1)) k_ hk⟩))
    (case aO=>exact (zR HO_129000.1))
    (case aS=>exact (keep_size (w:=w) (g:=g) (row:=none) zB8))
    (case aL=>have:=LMc31.out;omega)
    intro v157 w39 ho hb hg hat
    rw [←Ny156.1] at ho
    have n0_:=zM (Kd.R_after (ok:=(fun k_=>some k_≠(.slice Ao37 y150.length co37:Value).ownBlock)) (by refine zrR ?_;exact Kd.R_mono HO_129001.1 (fun _ hk=>⟨hk.2,hk.1⟩)) hg hat)
    have n1_:=zM (zg BK127.1 hg (Kd.R_ne HO_129000.1 BK127.1 (by decide)))
    have n2_:=zM (zg BK128.1 hg (Kd.R_ne HO_129000.1 BK128.1 (by decide)))
    have n3_:=zM (IsS106.grown zB12 hg (IsS106.own_ne HI0.1 HO_129000.1 (by decide)))
    have n4_:=zM (Kd.R_after (ok:=(fun k_=>some k_≠(u129001:Value).ownBlock)) (by refine zrR ?_;exact Kd.R_mono HO152.1 (fun _ hk=>⟨hk.2,hk.1.2⟩)) hg hat)
    have n5_:=zM (below_weaken zB7 HL.1 hb)
    have n6_:=zM (KeepBut.trans zB8 (KeepBut.of_grown hg g) (Kd.R_base2 HO_129000.1))
    have n7_:=zM ho
    clear HO_129001 BK127 BK128 HI0 HO152 HB HK HO_129000
    have HO_129001:=n0_
    have BK127:=n1_
    have BK128:=n2_
    have HI0:=n3_
    have HO152:=n4_
    have HB:=n5_
    have HK:=n6_
    have HO158:=n7_
    clear n0_ n1_ n2_ n3_ n4_ n5_ n6_ n7_ ho hb hg hat
    obtain ⟨Ao40,co40,eo40⟩:=Kd.R_slice HO158.1
    (first|subst eo40|(injection eo40 with f1_ f2_ f3_;have f4_:=f1_.symm;have f5_:=f3_.symm;clear f1_ f2_ f3_;subst f4_;subst f5_))
    refine hK.out _ _ zCs fun hHeld=>?_
    clear hK K
    refine zNo ?_
    refine zPu 7 ?_
    refine last_ (i:=8) (N:=none) zq3_9 rfl rfl (one_of HT_.1 (by kernel_rfl)) (by decide) (fun K hK=>?_)
    obtain ⟨hs41,hfs41⟩:=zHs BK128.1 0
    have hns41_0:=NB127_128.1
    have hms41_0:=NB128_127.1
    refine skip_ (w1:=?_) (by rfl) rfl ?_ ?_
    rotate_left
    ·go_simp
     rfl
    refine hK.out _ _ ?_
    clear hK K
    refine done_ (done_of HT_.1 (by kernel_rfl)) ?_
    have hnb42:=NB128_127.1
    have hnc42:=NB127_128.1
    have hnb43:=NB128_0.1
    have hnc43:=NB0_128.1
    have hcz44:=zc_2 (w:=w39) BK128.1
    have hnb45:=NB127_0.1
    have hnc45:=NB0_127.1
    have hcz46:=zc_2 (w:=w39) BK127.1
    obtain ⟨Ao47,co47,eo47⟩:=Kd.R_slice HO_129001.1
    subst eo47
    try go_wp2
    refine bodyPost_ret (results_cell_row rfl _ _ gb127 27 #[.slice Ao40 y156.length co40,.slice Ao47 x129001_1.length co47] (0,0) _ rfl zPq Try.underlying27 rfl (by kernel_rfl)) rfl ?_
    exact ⟨_,_,zE,by refine zrR ?_;exact Kd.R_mono (zfR (zfR (zgR (Kd.R_types (Kd.R_types HO158.1 BK128.1 (by decide)) BK127.1 (by decide))))) (fun _ hk=>hk.1.1.1),by refine zrR ?_;exact Kd.R_mono (zfR (zfR (zgR (Kd.R_types (Kd.R_types HO_129001.1 BK128.1 (by decide)) BK127.1 (by decide))))) (fun _ hk=>hk.1.1.2),zB12,zB7,zB8⟩
   rw [if_pos c8] at H
   have c8b0:=decide_eq_true c8
   clear c8
   replace H:=zO H
   obtain ⟨⟨t132,t133,t134⟩,A9,H⟩:=H
   try dsimp only at H
   replace H:=zIn H
   obtain ⟨LMc10,H⟩:=H
   generalize hy135:((x129000_1++[t132]):List Int)=y135 at H
   have Ny135:=zM hy135.symm
   clear hy135
   generalize hy138:((([0,8,12,20,23]:List Int)):List Int)=y138 at H
   have Ny138:=zM hy138.symm
   clear hy138
   replace H:=zO H
   obtain ⟨⟨t141,t142,t143⟩,A11,H⟩:=H
   try dsimp only at H
   replace H:=zIn H
   obtain ⟨LMc12,H⟩:=H
   generalize hy144:((x129001_1++[t141]):List Int)=y144 at H
   have Ny144:=zM hy144.symm
   clear hy144
   have H':=zM H
   clear H
   try go_wp2_with (first|((with_reducible refine zG Try.func90 8 #[.pointer (some ⟨g,0,none⟩),.int .i64 3] ?_);(with_reducible refine (spec_l1Below.calls g s0_0 x1001_1 x1002_1 3 t129 t130 t131 w0 _ ?side1 ?side2 A7.1).mono ?_);(case side1=>exact zB12);(case side2=>exact zB7);rintro e w13 ⟨rfl,hi,hb,hk⟩;refine ⟨_,rfl,?_⟩;replace HO_129000:=zM (Kd.R_mono (Kd.R_keep (IsS106.apart (show IsS106 w0 _ g s0_0 x1001_1 x1002_1 from zB12) (zR HO_129000.1) (by decide)) hk (fun _ h=>h.2)) (fun _ h=>h.1));replace HO_129001:=zM (Kd.R_mono (Kd.R_keep (IsS106.apart (show IsS106 w0 _ g s0_0 x1001_1 x1002_1 from zB12) (zR HO_129001.1) (by decide)) hk (fun _ h=>h.2)) (fun _ h=>h.1));replace BK127:=zM (zh hk BK127.1 NB127_0.1);replace BK128:=zM (zh hk BK128.1 NB128_0.1);replace HK:=zM (KeepBut.trans zB8 hk (.inl rfl));replace HB:=zM hb;replace HI0:=zM hi;clear hb hk hi))
   replace HO_129000:=zM (Kd.R_drew HO_129000.1)
   replace HO_129001:=zM (Kd.R_drew HO_129001.1)
   replace BK127:=zM (blk_drew BK127.1)
   replace BK128:=zM (blk_drew BK128.1)
   replace HI0:=zM (IsS106.drew HI0.1)
   replace HK:=zM (keep_drew HK.1)
   replace HB:=zM (below_drew1 HB.1)
   refine start_ (n:=8) (S:=fun w'=>w'.cell? ⟨gb128,0,none⟩=some (u129000)∧w'.cell? ⟨gb128,1,none⟩=some (u129001)) (ds:=[7]) #[false,false,false,false,false,false,false,false] (by kernel_rfl) rfl rfl ⟨(blk_cell BK128.1 0).trans rfl,(blk_cell BK128.1 1).trans rfl⟩ (fun hHeld=>?_);refine with_tabW spec_l24DrawWatch.tab5 spec_l24DrawWatch.bits5 (fun HT_ HW_=>?_)
   generalize w13.drew=w14 at HO_129000 HO_129001 BK127 BK128 HI0 HK HB hHeld ⊢
   refine zPu 0 ?_
   refine zPu 2 ?_
   refine zTk2 1 hHeld ?_
   refine zOn 3 (some 15) fun K hK=>?_
   refine zGs Try.func90 #[.pointer (some ⟨g,0,none⟩),.int .i64 20] ?_
   with_reducible refine (spec_l1Below.calls g s0_0 t130 t131 20 t132 t133 t134 w0 _ ?side1 ?side2 A9.1).mono ?_
   (case side1=>exact zB12)
   (case side2=>exact zB7)
   rintro e w15 ⟨rfl,hi,hb,hk⟩
   refine ⟨_,rfl,?_⟩
   replace HO_129000:=zM (Kd.R_mono (Kd.R_keep (IsS106.apart (show IsS106 w0 _ g s0_0 t130 t131 from zB12) (zR HO_129000.1) (by decide)) hk (fun _ h=>h.2)) (fun _ h=>h.1))
   replace HO_129001:=zM (Kd.R_mono (Kd.R_keep (IsS106.apart (show IsS106 w0 _ g s0_0 t130 t131 from zB12) (zR HO_129001.1) (by decide)) hk (fun _ h=>h.2)) (fun _ h=>h.1))
   replace BK127:=zM (zh hk BK127.1 NB127_0.1)
   replace BK128:=zM (zh hk BK128.1 NB128_0.1)
   replace HK:=zM (KeepBut.trans zB8 hk (.inl rfl))
   replace HB:=zM hb
   replace HI0:=zM hi
   refine hK.out _ _ zCs fun hHeld=>?_
   clear hK K
   refine zNo ?_
   refine zOn 4 (some 16) fun K hK=>?_
   refine value_ (w1:=?_) (v:=?_) (by rfl) rfl ?_ ?_
   rotate_left 2
   ·go_simp
    constructor
    ·rfl
    ·rfl
   refine hK.out _ _ ⟨(blk_cell (blk_alloc BK128.1 _) 0).trans rfl,(blk_cell (blk_alloc BK128.1 _) 1).trans rfl⟩ (fun hHeld=>?_)
   clear hK K
   refine zNo ?_
   refine zOn 5 (some 17) fun K hK=>?_
   refine Kd.R_append_step (Kd.int .i64) w.heap.size (by rfl) (.tmp 13) (.tmp 16) 24 3 (.int .i64 0) 8 rfl Try.underlying24 info3 rfl (by decide) (by omega) u129000 x129000_1 t132 [.int .i64 t132] (fun k_=>some k_≠(u129001:Value).ownBlock) (fun _=>False) rfl rfl ?aP (fun _ hk=>hk.elim) ?aF ?aO (Below.refl _ _) ?aS ?aL ?_
   (case aP=>exact rfl)
   (case aF=>exact (fun k_ hk=>Kd.fresh' (Kd.R_lt (zR HO_129001.1)) k_ hk))
   (case aO=>exact (zR HO_129000.1))
   (case aS=>exact (keep_size (w:=w) (g:=g) (row:=none) zB8))
   (case aL=>have:=LMc10.out;omega)
   intro v136 w16 ho hb hg hat
   rw [←Ny135.1] at ho
   have n0_:=zM (Kd.R_after (ok:=(fun _=>True)) (by refine zrR ?_;exact Kd.R_mono HO_129001.1 (fun _ hk=>⟨trivial,hk⟩)) hg hat)
   have n1_:=zM (zg BK127.1 hg (Kd.R_ne HO_129000.1 BK127.1 (by decide)))
   have n2_:=zM (zg BK128.1 hg (Kd.R_ne HO_129000.1 BK128.1 (by decide)))
   have n3_:=zM (IsS106.grown zB12 hg (IsS106.own_ne HI0.1 HO_129000.1 (by decide)))
   have n4_:=zM (below_weaken zB7 HL.1 hb)
   have n5_:=zM (KeepBut.trans zB8 (KeepBut.of_grown hg g) (Kd.R_base2 HO_129000.1))
   have n6_:=zM ho
   clear HO_129001 BK127 BK128 HI0 HB HK HO_129000
   have HO_129001:=n0_
   have BK127:=n1_
   have BK128:=n2_
   have HI0:=n3_
   have HB:=n4_
   have HK:=n5_
   have HO137:=n6_
   clear n0_ n1_ n2_ n3_ n4_ n5_ n6_ ho hb hg hat
   obtain ⟨Ao17,co17,eo17⟩:=Kd.R_slice HO137.1
   (first|subst eo17|(injection eo17 with f1_ f2_ f3_;have f4_:=f1_.symm;have f5_:=f3_.symm;clear f1_ f2_ f3_;subst f4_;subst f5_))
   refine hK.out _ _ zCs fun hHeld=>?_
   clear hK K
   refine zNo ?_
   refine zPu 6 ?_
   refine last_ (i:=7) (N:=none) #[true,true,true,true,true,true,true,true] rfl rfl (one_of HT_.1 (by kernel_rfl)) (by decide) (fun K hK=>?_)
   obtain ⟨hs18,hfs18⟩:=zHs BK128.1 0
   have hns18_0:=NB127_128.1
   have hms18_0:=NB128_127.1
   refine skip_ (w1:=?_) (by rfl) rfl ?_ ?_
   rotate_left
   ·go_simp
    rfl
   refine hK.out _ _ ?_
   clear hK K
   refine done_ (done_of HT_.1 (by kernel_rfl)) ?_
   try go_wp2
   generalize hw_:(w16.setCell ⟨gb128,0,none⟩ (.slice Ao17 y135.length co17))=w19
   have n0_:Aside0 (Kd.R (Kd.int .i64) 3 w19 w.heap.size (fun k_=>some k_≠(.slice Ao17 y135.length co17:Value).ownBlock) u129001 x129001_1):=⟨by rw [←hw_];refine zrR ?_;exact Kd.R_mono (zfR (Kd.R_types HO_129001.1 BK128.1 (by decide))) (fun _ hk=>hk.1.2)⟩
   have n1_:Aside0 (Kd.R (Kd.int .i64) 3 w19 w.heap.size (fun k_=>some k_≠(u129001:Value).ownBlock) (.slice Ao17 y135.length co17) y135):=⟨by rw [←hw_];refine zrR ?_;exact Kd.R_mono (zfR (Kd.R_types HO137.1 BK128.1 (by decide))) (fun _ hk=>hk.1)⟩
   have n2_:Aside0 (w19.heap[gb127]? =some (.cells #[.slice none 0 0,.slice none 0 0] 27 (0,0))):=⟨by rw [←hw_];exact zPq⟩
   have n3_:Aside0 (w19.heap[gb128]? =some (.cells #[.slice Ao17 y135.length co17,u129001] 27 (0,0))):=⟨by rw [←hw_];exact zPq⟩
   have n4_:Aside0 (IsS106 w0 w19 g s0_0 t133 t134):=⟨by rw [←hw_];exact zB12⟩
   have n5_:Aside0 (KeepBut w w19 g none):=⟨by rw [←hw_];exact zB8⟩
   have n6_:Aside0 (Below w0.heap.size w0 w19):=⟨by rw [←hw_];exact zB7⟩
   (try clear HO_129001)
   (try clear HO137)
   (try clear BK127)
   (try clear BK128)
   (try clear HI0)
   (try clear HK)
   (try clear HB)
   clear hw_
   have HO_129001:=n0_
   have HO137:=n1_
   have BK127:=n2_
   have BK128:=n3_
   have HI0:=n4_
   have HK:=n5_
   have HB:=n6_
   clear n0_ n1_ n2_ n3_ n4_ n5_ n6_
   replace HO_129001:=zM (Kd.R_drew HO_129001.1)
   replace HO137:=zM (Kd.R_drew HO137.1)
   replace BK127:=zM (blk_drew BK127.1)
   replace BK128:=zM (blk_drew BK128.1)
   replace HI0:=zM (IsS106.drew HI0.1)
   replace HK:=zM (keep_drew HK.1)
   replace HB:=zM (below_drew1 HB.1)
   refine start_ (n:=9) (S:=fun w'=>w'.cell? ⟨gb128,0,none⟩=some (.slice Ao17 y135.length co17)∧w'.cell? ⟨gb128,1,none⟩=some (u129001)) (ds:=[8]) zq3_0 (by kernel_rfl) rfl rfl ⟨(blk_cell BK128.1 0).trans rfl,(blk_cell BK128.1 1).trans rfl⟩ (fun hHeld=>?_);refine with_tabW spec_l24DrawWatch.tab6 spec_l24DrawWatch.bits6 (fun HT_ HW_=>?_)
   generalize w19.drew=w20 at HO_129001 HO137 BK127 BK128 HI0 HK HB hHeld ⊢
   refine zPu 0 ?_
   refine zPu 2 ?_
   refine zTk2 1 hHeld ?_
   refine zOn 3 (some 22) fun K hK=>?_
   refine Kd.R_lit_step (Kd.int .i64) _ 3 ?hg (N:=22) ?hd (xs:=([0,8,12,20,23]:List Int)) (inner:=[.int .i64 0,.int .i64 8,.int .i64 12,.int .i64 20,.int .i64 23]) (ok:=fun _=>True) (okp:=fun _=>True) ?hr ?hp (fun _ hk=>hk) trivial (Below.refl _ _) (Nat.le_refl _) (by simp) ?_;(case hd=>rfl);(case hg=>rfl);(case hr=>exact zHH);(case hp=>exact (Reps.one (show Kd.M (Kd.int .i64) _ _ _ 0 [.int .i64 0] from rfl) (Reps.one (show Kd.M (Kd.int .i64) _ _ _ 8 [.int .i64 8] from rfl) (Reps.one (show Kd.M (Kd.int .i64) _ _ _ 12 [.int .i64 12] from rfl) (Reps.one (show Kd.M (Kd.int .i64) _ _ _ 20 [.int .i64 20] from rfl) (Reps.one (show Kd.M (Kd.int .i64) _ _ _ 23 [.int .i64 23] from rfl) (Reps.none _ _)))))))
   intro v139 w21 ho22 hb hg_ hnew_
   clear hg_ hnew_
   (first|rw [←Ny138.1] at ho22|(simp only [Int.reduceToNat] at ho22;rw [←Ny138.1] at ho22))
   have n0_:=zM (Kd.R_elder' (zR HO_129001.1) (Kd.R_base ho22) hb)
   have n1_:=zM (Kd.R_elder' (zR HO137.1) (Kd.R_base ho22) hb)
   have n2_:=zM (Kd.R_lower (Kd.R_new' (Kd.R_new' ho22 (Kd.R_lt (zR HO_129001.1))) (Kd.R_lt (zR HO137.1))) (keep_size (w:=w) (g:=g) (row:=none) zB8))
   have n3_:=zM (zb BK127.1 hb)
   have n4_:=zM (zb BK128.1 hb)
   have n5_:=zM (IsS106.below zB12 hb)
   have n6_:=zM (KeepBut.trans zB8 (KeepBut.of_below hb g none) (.inl rfl))
   have n7_:=zM (below_step zB7 hb)
   clear HO_129001 HO137 BK127 BK128 HI0 HK HB
   have HO_129001:=n0_
   have HO137:=n1_
   have HO140:=n2_
   have BK127:=n3_
   have BK128:=n4_
   have HI0:=n5_
   have HK:=n6_
   have HB:=n7_
   clear n0_ n1_ n2_ n3_ n4_ n5_ n6_ n7_ hb ho22
   obtain ⟨Ao23,co23,eo23⟩:=Kd.R_slice HO140.1
   (first|subst eo23|(injection eo23 with f1_ f2_ f3_;have f4_:=f1_.symm;have f5_:=f3_.symm;clear f1_ f2_ f3_;subst f4_;subst f5_))
   refine hK.out _ _ zCs fun hHeld=>?_
   clear hK K
   refine zNo ?_
   refine zOn 4 (some 23) fun K hK=>?_
   refine zGs Try.func91 #[.pointer (some ⟨g,0,none⟩),.slice Ao23 y138.length co23] ?_
   with_reducible refine (spec_l1PickInt.calls g s0_0 t133 t134 _ _ y138 t141 t142 t143 w0 _ ?side1 ?side2 ?side3 ?side4 ?side5 A11.1).mono ?_
   (case side1=>exact zB12)
   (case side2=>exact zB7)
   (case side3=>exact zC (Kd.R_reads' HO140.1).2.2)
   (case side4=>exact (Kd.R_reads' HO140.1).2.1)
   (case side5=>exact far_slice (IsS106.own_ne HI0.1 HO140.1 (by decide)))
   rintro e w24 ⟨rfl,hi,hb,hk⟩
   refine ⟨_,rfl,?_⟩
   replace HO_129001:=zM (Kd.R_mono (Kd.R_keep (IsS106.apart (show IsS106 w0 _ g s0_0 t133 t134 from zB12) (zR HO_129001.1) (by decide)) hk (fun _ h=>h.2)) (fun _ h=>h.1))
   replace BK127:=zM (zh hk BK127.1 NB127_0.1)
   replace BK128:=zM (zh hk BK128.1 NB128_0.1)
   replace HO137:=zM (Kd.R_mono (Kd.R_keep (IsS106.apart (show IsS106 w0 _ g s0_0 t133 t134 from zB12) (zR HO137.1) (by decide)) hk (fun _ h=>h.2)) (fun _ h=>h.1))
   replace HO140:=zM (Kd.R_mono (Kd.R_keep (IsS106.apart (show IsS106 w0 _ g s0_0 t133 t134 from zB12) (zR HO140.1) (by decide)) hk (fun _ h=>h.2)) (fun _ h=>h.1))
   replace HK:=zM (KeepBut.trans zB8 hk (.inl rfl))
   replace HB:=zM hb
   replace HI0:=zM hi
   refine hK.out _ _ zCs fun hHeld=>?_
   clear hK K
   refine zNo ?_
   refine zOn 5 (some 24) fun K hK=>?_
   refine value_ (w1:=?_) (v:=?_) (by rfl) rfl ?_ ?_
   rotate_left 2
   ·go_simp
    constructor
    ·rfl
    ·rfl
   refine hK.out _ _ ⟨(blk_cell (blk_alloc BK128.1 _) 0).trans rfl,(blk_cell (blk_alloc BK128.1 _) 1).trans rfl⟩ (fun hHeld=>?_)
   clear hK K
   refine zNo ?_
   refine zOn 6 (some 25) fun K hK=>?_
   refine Kd.R_append_step (Kd.int .i64) w.heap.size (by rfl) (.tmp 20) (.tmp 24) 24 3 (.int .i64 0) 8 rfl Try.underlying24 info3 rfl (by decide) (by omega) u129001 x129001_1 t141 [.int .i64 t141] (fun k_=>some k_≠(.slice Ao17 y135.length co17:Value).ownBlock∧some k_≠(.slice Ao23 y138.length co23:Value).ownBlock) (fun _=>False) rfl rfl ?aP (fun _ hk=>hk.elim) ?aF ?aO (Below.refl _ _) ?aS ?aL ?_
   (case aP=>exact rfl)
   (case aF=>exact (fun k_ hk=>⟨Kd.fresh' (Kd.R_lt (zR HO137.1)) k_ hk,Kd.fresh' (Kd.R_lt (zR HO140.1)) k_ hk⟩))
   (case aO=>exact (zR HO_129001.1))
   (case aS=>exact (keep_size (w:=w) (g:=g) (row:=none) zB8))
   (case aL=>have:=LMc12.out;omega)
   intro v145 w25 ho hb hg hat
   rw [←Ny144.1] at ho
   have n0_:=zM (zg BK127.1 hg (Kd.R_ne HO_129001.1 BK127.1 (by decide)))
   have n1_:=zM (zg BK128.1 hg (Kd.R_ne HO_129001.1 BK128.1 (by decide)))
   have n2_:=zM (IsS106.grown zB12 hg (IsS106.own_ne HI0.1 HO_129001.1 (by decide)))
   have n3_:=zM (Kd.R_after (ok:=(fun k_=>some k_≠(.slice Ao23 y138.length co23:Value).ownBlock)) (by refine zrR ?_;exact Kd.R_mono HO137.1 (fun _ hk=>⟨hk.2,hk.1⟩)) hg hat)
   have n4_:=zM (Kd.R_after (ok:=(fun k_=>some k_≠(.slice Ao17 y135.length co17:Value).ownBlock)) (by refine zrR ?_;exact Kd.R_mono HO140.1 (fun _ hk=>⟨hk.2,hk.1.2⟩)) hg hat)
   have n5_:=zM (below_weaken zB7 HL.1 hb)
   have n6_:=zM (KeepBut.trans zB8 (KeepBut.of_grown hg g) (Kd.R_base2 HO_129001.1))
   have n7_:=zM ho
   clear BK127 BK128 HI0 HO137 HO140 HB HK HO_129001
   have BK127:=n0_
   have BK128:=n1_
   have HI0:=n2_
   have HO137:=n3_
   have HO140:=n4_
   have HB:=n5_
   have HK:=n6_
   have HO146:=n7_
   clear n0_ n1_ n2_ n3_ n4_ n5_ n6_ n7_ ho hb hg hat
   obtain ⟨Ao26,co26,eo26⟩:=Kd.R_slice HO146.1
   (first|subst eo26|(injection eo26 with f1_ f2_ f3_;have f4_:=f1_.symm;have f5_:=f3_.symm;clear f1_ f2_ f3_;subst f4_;subst f5_))
   refine hK.out _ _ zCs fun hHeld=>?_
   clear hK K
   refine zNo ?_
   refine zPu 7 ?_
   refine last_ (i:=8) (N:=none) zq3_9 rfl rfl (one_of HT_.1 (by kernel_rfl)) (by decide) (fun K hK=>?_)
   obtain ⟨hs27,hfs27⟩:=zHs BK128.1 1
   have hns27_0:=NB127_128.1
   have hms27_0:=NB128_127.1
   refine skip_ (w1:=?_) (by rfl) rfl ?_ ?_
   rotate_left
   ·go_simp
    rfl
   refine hK.out _ _ ?_
   clear hK K
   refine done_ (done_of HT_.1 (by kernel_rfl)) ?_
   try go_wp2
   go_roundg k1
   case measure=>have:=HK1.1;omega
   case rel=>exact ⟨(wrap64 (x4_1+1)),(t142),(t143),(y135),(y144),(.slice Ao17 y135.length co17),(.slice Ao26 y144.length co26),zJJ,H',⟨by have:=HK1.1;omega⟩,⟨by refine zrR ?_;exact Kd.R_mono (zfR (Kd.R_types HO137.1 BK128.1 (by decide))) (fun _ hk=>hk.1.2)⟩,⟨by refine zrR ?_;exact Kd.R_mono (zfR (Kd.R_types HO146.1 BK128.1 (by decide))) (fun _ hk=>hk.1.1)⟩,⟨by refine zP ?_;refine blk_far ?_ NB127_128.1 _;refine zP ?_;exact BK127.1⟩,⟨by refine zP ?_;refine blk_put (cs:=#[.slice Ao17 y135.length co17,u129001]) ?_ 1 _ rfl;refine zP ?_;exact BK128.1⟩,⟨zB12⟩,⟨zB8⟩,⟨zB7⟩⟩

/-! ### spec_l9Address: function 117 -/
def spec_l9Address.f (a0:Int):Option (Int):=if (Int.tmod a0 24)<0 then (some (wrap64 ((Int.tmod a0 24)+24))) else (some (Int.tmod a0 24))
theorem spec_l9Address.calls (a0:Int) (r:Int) (w:World) (h:spec_l9Address.f a0=some r):
  Calls Try.prog 117 #[.int .i64 a0] w fun e w'=>e= .returned (.int .i64 r)∧Drawn0 w w':=by
 unfold spec_l9Address.f at h
 have H:=h
 clear h
 by_cases c2:(Int.tmod a0 24)<0
 ·rw [if_pos c2] at H
  have c2b0:=decide_eq_true c2
  clear c2
  obtain rfl:=Option.some.inj H
  go_enter Try.func117,Try.ntmps117
  go_wp2
  go_ret
  exact ⟨zJJ,zDD⟩
 rw [if_neg c2] at H
 have c2b0:=decide_eq_false c2
 clear c2
 obtain rfl:=Option.some.inj H
 go_enter Try.func117,Try.ntmps117
 go_wp2
 go_ret
 exact ⟨zJJ,zDD⟩

end Go.Proofs.Ytpcgecacaemalaa.PFnStops
