-- made by wip/tools/myprint.py out of the seat's translation
import Derived.Test.YtaakcbgpmabaaaaPFnSeenx0
import Derived.Test.YtaakcbgpmabaaaaPFnSeenx2
import Derived.Test.YtaakcbgpmabaaaaPFnSeenx3
namespace Go.Proofs.Ytaakcbgpmabaaaa.PFnSeen
open Go.RowKit Go.Proofs.YtaakcbgpmabaaaaW.PrintWords Go.Proofs.YtaakcbgpmabaaaaW.PrintLast Go.Proofs.YtaakcbgpmabaaaaW.PrintMore
attribute [local go_sem] max2_int min2_int max_two min_two max_three min_three max_four min_four -- for this text's walks alone
set_option linter.unusedVariables false
set_option linter.unusedSimpArgs false
set_option maxHeartbeats 8000000
set_option maxRecDepth 100000

/-! ### spec_HartNew: function 75 -/
def spec_HartNew.f (a0:Int):Option (List Int×Int×Int):=(spec_l9Address.f a0).bind fun t226=>(some ((List.replicate 4 0),t226,0))
theorem spec_HartNew.calls (a0:Int) (r1:List Int) (r2:Int) (r3:Int) (w:World) (h:spec_HartNew.f a0=some (r1,r2,r3)):
  Calls Try.prog 75 #[.int .i64 a0] w fun e w'=>∃v0_:Value,e= .returned (.agg #[v0_,.int .i64 r2,.int .i64 r3])∧Kd.R (Kd.int .i64) 3 w' w.heap.size (fun _=>True) v0_ r1∧Below w.heap.size w w':=by
 have hu72:=Try.underlying72
 have HB:=zM (Below.refl w.heap.size w)
 unfold spec_HartNew.f at h
 have H:=h
 clear h
 generalize hy223:((List.replicate 4 0):List Int)=y223 at H
 have Ny223:=zM hy223.symm
 clear hy223
 replace H:=zO H
 obtain ⟨t226,A2,H⟩:=H
 simp only [Option.some.injEq,Prod.mk.injEq] at H
 obtain ⟨rfl,rfl,rfl⟩:=H
 go_enter Try.func75,Try.ntmps75
 try go_wp2_with (first|((with_reducible refine zBx 2 72 #[.slice none 0 0,.int .i64 0,.int .i64 0] ?_);intro gb222 hg w3 hbox hb;have BK222:=zM hbox;have GW222:=zM (zW hg (below_size zB3));have GE222:=zM (zW hg (below_size zB3));replace HB:=zM (below_step zB3 hb);clear hb hbox hg))
 replace BK222:=zM (blk_drew BK222.1)
 replace HB:=zM (below_drew1 HB.1)
 refine start_ (n:=5) (S:=fun w'=>True) (ds:=[]) #[false,false,false,false,false] (by kernel_rfl) rfl rfl trivial (fun hHeld=>?_)
 generalize w3.drew=w4 at BK222 HB hHeld ⊢
 refine zPu 1 ?_
 refine join_ (σ:=Value) 2 #[true,true,true,false,false] (fun s_=>[(3,s_),(5,.int .i64 t226)]) (fun s_ w'=>(Kd.R (Kd.int .i64) 3 w' w.heap.size (fun _=>True) s_ y223)∧(w'.heap[gb222]? =some (.cells #[.slice none 0 0,.int .i64 0,.int .i64 0] 72 (0,0)))∧(Below w.heap.size w w')) ?_ ?_
 rotate_left
 ·intro hCont
  refine two_ (i:=0) (j:=2) (Ni:=some 3) (Nj:=some 5) #[true,true,false,false,false] #[false,true,true,false,false] rfl rfl rfl rfl (by kernel_rfl) (by decide) (by decide) (fun K hK=>?_) (fun K hK=>?_)
  ·refine Kd.R_make_step (Kd.int .i64) _ 3 (by rfl) (N:=3) rfl 24 _ _ rfl 4 rfl rfl Try.underlying24 (.int .i64 0) 8 info3 rfl (by decide) (by omega) 0 (ok:=fun _=>True) (okp:=fun _=>True) rfl (fun _ hk=>hk) trivial (by omega) (by omega) (Below.refl _ _) (Nat.le_refl _) ?_
   intro v224 w5 ho6 hb hg_ hnew_
   clear hg_ hnew_
   (first|rw [←Ny223.1] at ho6|(simp only [Int.reduceToNat] at ho6;rw [←Ny223.1] at ho6))
   replace HO225:=zM (Kd.R_lower ho6 (below_size zB3))
   replace BK222:=zM (zb BK222.1 hb)
   replace HB:=zM (below_step zB3 hb)
   refine hK.out _ _ trivial (fun hHeld=>?_)
   clear hK K
   refine zNo ?_
   refine zOn 2 (some 5) fun K hK=>?_
   refine zGs Try.func102 #[.int .i64 a0] ?_
   with_reducible refine (spec_l9Address.calls a0 t226 _ A2.1).mono ?_
   rintro e w' ⟨rfl,⟨nd,rfl⟩⟩
   refine ⟨_,rfl,?_⟩
   obtain ⟨Ao7,co7,eo7⟩:=Kd.R_slice HO225.1
   (first|subst eo7|(injection eo7 with f1_ f2_ f3_;have f4_:=f1_.symm;have f5_:=f3_.symm;clear f1_ f2_ f3_;subst f4_;subst f5_))
   refine hK.out _ _ trivial (fun hHeld=>?_)
   clear hK K
   refine zNo ?_
   exact norm_ zNr (hCont (.slice Ao7 y223.length co7) _ ⟨(zR HO225.1),(zK BK222.1),zB3⟩)
  ·refine zGs Try.func102 #[.int .i64 a0] ?_
   with_reducible refine (spec_l9Address.calls a0 t226 _ A2.1).mono ?_
   rintro e w' ⟨rfl,⟨nd,rfl⟩⟩
   refine ⟨_,rfl,?_⟩
   refine hK.out _ _ trivial (fun hHeld=>?_)
   clear hK K
   refine zNo ?_
   refine zOn 0 (some 3) fun K hK=>?_
   refine Kd.R_make_step (Kd.int .i64) _ 3 (by rfl) (N:=3) rfl 24 _ _ rfl 4 rfl rfl Try.underlying24 (.int .i64 0) 8 info3 rfl (by decide) (by omega) 0 (ok:=fun _=>True) (okp:=fun _=>True) rfl (fun _ hk=>hk) trivial (by omega) (by omega) (Below.refl _ _) (Nat.le_refl _) ?_
   intro v224 w5 ho6 hb hg_ hnew_
   clear hg_ hnew_
   (first|rw [←Ny223.1] at ho6|(simp only [Int.reduceToNat] at ho6;rw [←Ny223.1] at ho6))
   replace HO225:=zM (Kd.R_lower ho6 (below_size zB3))
   replace BK222:=zM (zb BK222.1 hb)
   replace HB:=zM (below_step zB3 hb)
   obtain ⟨Ao7,co7,eo7⟩:=Kd.R_slice HO225.1
   (first|subst eo7|(injection eo7 with f1_ f2_ f3_;have f4_:=f1_.symm;have f5_:=f3_.symm;clear f1_ f2_ f3_;subst f4_;subst f5_))
   refine hK.out _ _ trivial (fun hHeld=>?_)
   clear hK K
   refine zNo ?_
   exact norm_ zNr (hCont (.slice Ao7 y223.length co7) _ ⟨(zR HO225.1),(zK BK222.1),zB3⟩)
 rintro v224 w8 ⟨h0_,h1_,h2_⟩
 replace HO225:=zM h0_
 replace BK222:=zM h1_
 replace HB:=zM h2_
 have hHeld:=trivial
 obtain ⟨Ao9,co9,eo9⟩:=Kd.R_slice HO225.1
 (first|subst eo9|(injection eo9 with f1_ f2_ f3_;have f4_:=f1_.symm;have f5_:=f3_.symm;clear f1_ f2_ f3_;subst f4_;subst f5_))
 refine zNp ?_
 refine zPu 3 ?_
 refine zOn 4 none fun K hK=>?_
 obtain ⟨hs10,hfs10⟩:=zHs BK222.1 0
 obtain ⟨hs11,hfs11⟩:=zHs BK222.1 1
 obtain ⟨hs12,hfs12⟩:=zHs BK222.1 2
 refine skip_ (w1:=?_) (by rfl) rfl ?_ ?_
 rotate_left
 ·go_simp
  rfl
 refine hK.out _ _ trivial (fun hHeld=>?_)
 clear hK K
 refine done_ (by kernel_rfl) ?_
 try go_wp2
 refine bodyPost_ret (results_cell_row rfl _ _ gb222 72 #[.slice Ao9 y223.length co9,.int .i64 t226,.int .i64 0] (0,0) _ rfl (by exact zp3 (zK BK222.1)) Try.underlying72 rfl (by kernel_rfl)) rfl ?_
 exact ⟨_,zE,by refine zrR ?_;exact Kd.R_mono (zfR (zfR (zfR (Kd.R_types HO225.1 BK222.1 (by decide))))) (fun _ hk=>trivial),zB3⟩

/-! ### spec_l9DrawHart: function 73 -/
def spec_l9DrawHart.l0:Nat→Int→List Int→Int→Int→List Int→Int→Int→Option (List Int×Int×Int×Int×Int)
 |0,_,_,_,_,_,_,_=>none
 |k+1,x4,x1000,x1001,x1002,x237000,x237001,x237002=>if x4<4 then ((spec_l1PickInt.f x1000 x1001 x1002 (([0,1,2,20,65535]:List Int))).bind fun bt240=>(if 0≤x4 then (if x4<(x237000.length:Int) then (spec_l9DrawHart.l0 k (wrap64 (x4+1)) x1000 bt240.2.1 bt240.2.2 (x237000.set (x4:Int).toNat bt240.1) x237001 x237002) else (none)) else (none))) else ((spec_l1Below.f x1000 x1001 x1002 12).bind fun bt244=>(if bt244.1=0 then ((spec_l1Below.f x1000 bt244.2.1 bt244.2.2 5).bind fun bt247=>(some (x237000,x237001,wrap64 (bt247.1-1),bt247.2.1,bt247.2.2))) else (if bt244.1=1 then ((spec_l1PickInt.f x1000 bt244.2.1 bt244.2.2 (([(-1),65536]:List Int))).bind fun bt253=>(if 0<(x237000.length:Int) then (some ((x237000.set (0:Int).toNat bt253.1),x237001,x237002,bt253.2.1,bt253.2.2)) else (none))) else (if bt244.1=2 then ((spec_l1PickInt.f x1000 bt244.2.1 bt244.2.2 (([(-1),24]:List Int))).bind fun bt260=>(some (x237000,bt260.1,x237002,bt260.2.1,bt260.2.2))) else (if bt244.1=3 then (if (x237000.length:Int)=4 then (some ((x237000.drop (1:Int).toNat),x237001,x237002,bt244.2.1,bt244.2.2)) else (none)) else (some (x237000,x237001,x237002,bt244.2.1,bt244.2.2)))))))
def spec_l9DrawHart.f (k:Nat) (s0_0:List Int) (s0_1:Int) (s0_2:Int):Option (List Int×Int×Int×Int×Int):=(spec_l1Below.f s0_0 s0_1 s0_2 20).bind fun bt228=>((spec_HartNew.f bt228.1).bind fun bt231=>(spec_l9DrawHart.l0 k 0 s0_0 bt228.2.1 bt228.2.2 bt231.1 bt231.2.1 bt231.2.2))
theorem spec_l9DrawHart.mono_l: ∀k,(∀y0 y1 y2 y3 y4 y5 y6,LeO (spec_l9DrawHart.l0 k y0 y1 y2 y3 y4 y5 y6) (spec_l9DrawHart.l0 (k+1) y0 y1 y2 y3 y4 y5 y6))
 |0=>fun _ _ _ _ _ _ _ r h=>by simp [spec_l9DrawHart.l0] at h
 |k+1=>by
  have ih0:=spec_l9DrawHart.mono_l k
  ·intros
   unfold spec_l9DrawHart.l0
   exact zL
theorem spec_l9DrawHart.mono: ∀a0 a1 a2 k,LeO (spec_l9DrawHart.f k a0 a1 a2) (spec_l9DrawHart.f (k+1) a0 a1 a2):=by
 intro a0 a1 a2 k
 have ih0:=spec_l9DrawHart.mono_l k
 unfold spec_l9DrawHart.f
 exact zL
def spec_l9DrawHart.T5:Bool×List (List Nat×List Nat):=(true,[([],[]),([0],[0]),([],[]),([],[]),([],[]),([3,4],[3,4]),([1,2,0,1,2,3,4,5],[1,2]),([6,5,5,0,1,2,3,4,5],[5,6])])
def spec_l9DrawHart.B5:List Nat:=[0,1,0,0,0,24,63,127]
theorem spec_l9DrawHart.tab5:rtab .any (opsOf Try.f73 5)=spec_l9DrawHart.T5:=by kernel_rfl
theorem spec_l9DrawHart.bits5:waitsOk spec_l9DrawHart.T5.2 spec_l9DrawHart.B5=true:=by kernel_rfl
theorem QR_of {e b:Nat} {ok:Nat→Prop} {W:World} {v:Value} {xs:List Int} (h:Kd.R (Kd.int .i64) e W b ok v xs):Kd.Q (Kd.int .i64) e W b ok v xs∧(xs.length=4→Kd.R (Kd.int .i64) e W b ok v xs):=⟨Kd.Q_of_R h,fun _=>h⟩
theorem spec_l9DrawHart.calls (k:Nat) (g:Nat) (s0_0:List Int) (s0_1:Int) (s0_2:Int) (r1:List Int) (r2:Int) (r3:Int) (r4:Int) (r5:Int) (w0 w:World) (hI:IsS104 w0 w g s0_0 s0_1 s0_2) (hB:Below w0.heap.size w0 w) (h:spec_l9DrawHart.f k s0_0 s0_1 s0_2=some (r1,r2,r3,r4,r5)):
  Calls Try.prog 73 #[.pointer (some ⟨g,0,none⟩)] w fun e w'=>∃v0_:Value,e= .returned (.agg #[v0_,.int .i64 r2,.int .i64 r3])∧(Kd.Q (Kd.int .i64) 3 w' w.heap.size (fun _=>True) v0_ r1∧(r1.length=4→Kd.R (Kd.int .i64) 3 w' w.heap.size (fun _=>True) v0_ r1))∧IsS104 w0 w' g s0_0 r4 r5∧Below w0.heap.size w0 w'∧KeepBut w w' g none:=by
 have hu72:=Try.underlying72
 have HI0:=zM hI
 have HK:=zM (KeepBut.refl w g none)
 have HL:=zM hB.size
 clear hI
 have HW0:=zM hB.size
 have HB:=zM hB
 clear hB
 unfold spec_l9DrawHart.f at h
 have H:=h
 clear h
 replace H:=zO H
 obtain ⟨⟨t228,t229,t230⟩,A2,H⟩:=H
 try dsimp only at H
 replace H:=zO H
 obtain ⟨⟨t231,t234,t235⟩,A3,H⟩:=H
 try dsimp only at H
 have H':=zM H
 clear H
 go_enter Try.func73,Try.ntmps73
 go_wp2_with (first|((with_reducible refine zBx 2 72 #[.slice none 0 0,.int .i64 0,.int .i64 0] ?_);intro gb227 hg w4 hbox hb;replace HB:=zM (below_step zB1 hb);have BK227:=zM hbox;have GW227:=zM ((by rw [hg];exact (keep_size (w:=w) (g:=g) (row:=none) zB2):w.heap.size≤gb227));have GE227:=zM ((Nat.le_trans HW0.1 (by rw [hg];exact (keep_size (w:=w) (g:=g) (row:=none) zB2):w.heap.size≤gb227):w0.heap.size≤gb227));replace HK:=zM (KeepBut.trans zB2 (KeepBut.of_below hb g none) (.inl rfl));have NB0_227:=zM ((by rw [hg];exact Nat.ne_of_lt (IsS104.lt (show IsS104 w0 _ g s0_0 s0_1 s0_2 from zB0)):g≠gb227));have NB227_0:=zM ((by rw [hg];exact Nat.ne_of_gt (IsS104.lt (show IsS104 w0 _ g s0_0 s0_1 s0_2 from zB0)):gb227≠g));replace HI0:=zM (IsS104.below zB0 hb);clear hb hbox hg)|((with_reducible refine zG Try.func43 6 #[.pointer (some ⟨g,0,none⟩),.int .i64 20] ?_);(with_reducible refine (spec_l1Below.calls g s0_0 s0_1 s0_2 20 t228 t229 t230 w0 _ ?side1 ?side2 A2.1).mono ?_);(case side1=>exact zB13);(case side2=>exact zB1);rintro e w5 ⟨rfl,hi,hb,hk⟩;refine ⟨_,rfl,?_⟩;replace BK227:=zM (zh hk BK227.1 NB227_0.1);replace HK:=zM (KeepBut.trans zB2 hk (.inl rfl));replace HB:=zM hb;replace HI0:=zM hi;clear hb hk hi)|((with_reducible refine zG Try.func75 7 #[.int .i64 t228] ?_);(with_reducible refine (spec_HartNew.calls t228 t231 t234 t235 _ A3.1).mono ?_);rintro e w6 ⟨v232,rfl,ho0,hb⟩;refine ⟨_,rfl,?_⟩;have HO233:=zM (Kd.R_lower ho0 (keep_size (w:=w) (g:=g) (row:=none) zB2));replace BK227:=zM (zb BK227.1 hb);replace HK:=zM (KeepBut.trans zB2 (KeepBut.of_below hb g none) (.inl rfl));replace HB:=zM (below_step zB1 hb);replace HI0:=zM (IsS104.below zB13 hb);clear hb ho0)|((with_reducible refine zBx 3 72 #[.slice none 0 0,.int .i64 0,.int .i64 0] ?_);intro gb236 hg w7 hbox hb;replace HO233:=zM (Kd.R_below (zR HO233.1) hb);replace HB:=zM (below_step zB1 hb);have BK236:=zM hbox;have GW236:=zM ((by rw [hg];exact (keep_size (w:=w) (g:=g) (row:=none) zB2):w.heap.size≤gb236));have GE236:=zM ((Nat.le_trans HW0.1 (by rw [hg];exact (keep_size (w:=w) (g:=g) (row:=none) zB2):w.heap.size≤gb236):w0.heap.size≤gb236));replace HK:=zM (KeepBut.trans zB2 (KeepBut.of_below hb g none) (.inl rfl));have NB227_236:=zM ((zn BK227.1 hg:gb227≠gb236));have NB236_227:=zM ((zm BK227.1 hg:gb236≠gb227));replace BK227:=zM (zb BK227.1 hb);have NB0_236:=zM ((by rw [hg];exact Nat.ne_of_lt (IsS104.lt (show IsS104 w0 _ g s0_0 t229 t230 from zB13)):g≠gb236));have NB236_0:=zM ((by rw [hg];exact Nat.ne_of_gt (IsS104.lt (show IsS104 w0 _ g s0_0 t229 t230 from zB13)):gb236≠g));replace HI0:=zM (IsS104.below zB13 hb);clear hb hbox hg;obtain ⟨Ao8,co8,eo8⟩:=Kd.R_slice HO233.1;subst eo8;have hnb9:=NB236_227.1;have hnc9:=NB227_236.1;have hnb10:=NB236_0.1;have hnc10:=NB0_236.1;have hcz11:=zc_3 (w:=w7) BK236.1))
 go_loopg [4] k (fun kq v4 w'=>∃(x4_1:Int) (x1001_1:Int) (x1002_1:Int) (x237000_1:List Int) (u237000:Value),v4= .int .i64 x4_1∧Aside0 (spec_l9DrawHart.l0 kq x4_1 s0_0 x1001_1 x1002_1 x237000_1 t234 t235=some (r1,r2,r3,r4,r5))∧Aside0 (kq≤k)∧Aside0 (Kd.R (Kd.int .i64) 3 w' w.heap.size (fun _=>True) u237000 x237000_1)∧Aside0 (w'.heap[gb227]? =some (.cells #[(.slice none 0 0),.int .i64 0,.int .i64 0] 72 (0,0)))∧Aside0 (w'.heap[gb236]? =some (.cells #[u237000,.int .i64 t234,.int .i64 t235] 72 (0,0)))∧Aside0 (IsS104 w0 w' g s0_0 x1001_1 x1002_1)∧Aside0 (KeepBut w w' g none)∧Aside0 (Below w0.heap.size w0 w'))
 case atStart=>exact ⟨(0),(t229),(t230),(t231),(.slice Ao8 t231.length co8),zJJ,H',⟨Nat.le_refl _⟩,⟨by refine zrR ?_;exact Kd.R_mono (zfR (zfR (zfR (Kd.R_types HO233.1 BK236.1 (by decide))))) (fun _ hk=>trivial)⟩,⟨zPq⟩,⟨by exact zp3 (zK BK236.1)⟩,⟨zB16⟩,⟨zB2⟩,⟨zB1⟩⟩
 case round=>
  clear H'
  obtain ⟨x4_1,x1001_1,x1002_1,x237000_1,u237000,rfl,HA,HK1,HO_237000,BK227,BK236,HI0,HK,HB⟩:=hrel
  cases gk with
  |zero=>exact absurd HA.1 (by simp [spec_l9DrawHart.l0])
  |succ k1=>
   have H:=HA.1
   clear HA
   simp only [spec_l9DrawHart.l0] at H
   by_cases c12:x4_1<4
   ·rw [if_pos c12] at H
    have c12b0:=decide_eq_true c12
    clear c12
    generalize hy237:((([0,1,2,20,65535]:List Int)):List Int)=y237 at H
    have Ny237:=zM hy237.symm
    clear hy237
    replace H:=zO H
    obtain ⟨⟨t240,t241,t242⟩,A13,H⟩:=H
    try dsimp only at H
    replace H:=zIt H
    obtain ⟨c14b0,H⟩:=H
    replace H:=zIt H
    obtain ⟨c15b0,H⟩:=H
    generalize hy243:((x237000_1.set (x4_1:Int).toNat t240):List Int)=y243 at H
    have Ny243:=zM hy243.symm
    clear hy243
    have H':=zM H
    clear H
    try go_wp2
    replace HO_237000:=zM (Kd.R_drew HO_237000.1)
    replace BK227:=zM (blk_drew BK227.1)
    replace BK236:=zM (blk_drew BK236.1)
    replace HI0:=zM (IsS104.drew HI0.1)
    replace HK:=zM (keep_drew HK.1)
    replace HB:=zM (below_drew1 HB.1)
    refine start_ (n:=8) (S:=fun w'=>w'.cell? ⟨gb236,0,none⟩=some (u237000)∧w'.cell? ⟨gb236,1,none⟩=some (.int .i64 t234)∧w'.cell? ⟨gb236,2,none⟩=some (.int .i64 t235)) (ds:=[7]) #[false,false,false,false,false,false,false,false] (by kernel_rfl) rfl rfl ⟨(blk_cell BK236.1 0).trans rfl,(blk_cell BK236.1 1).trans rfl,(blk_cell BK236.1 2).trans rfl⟩ (fun hHeld=>?_);refine with_tabW spec_l9DrawHart.tab5 spec_l9DrawHart.bits5 (fun HT_ HW_=>?_)
    generalize wr.drew=w17 at HO_237000 BK227 BK236 HI0 HK HB hHeld ⊢
    refine zPu 0 ?_
    refine zPu 2 ?_
    refine zPu 3 ?_
    refine zTk3 1 hHeld ?_
    refine zOn 4 (some 16) fun K hK=>?_
    refine Kd.R_lit_step (Kd.int .i64) _ 3 ?hg (N:=16) ?hd (xs:=([0,1,2,20,65535]:List Int)) (inner:=[.int .i64 0,.int .i64 1,.int .i64 2,.int .i64 20,.int .i64 65535]) (ok:=fun _=>True) (okp:=fun _=>True) ?hr ?hp (fun _ hk=>hk) trivial (Below.refl _ _) (Nat.le_refl _) (by simp) ?_;(case hd=>rfl);(case hg=>rfl);(case hr=>exact zHH);(case hp=>exact (Reps.one (show Kd.M (Kd.int .i64) _ _ _ 0 [.int .i64 0] from rfl) (Reps.one (show Kd.M (Kd.int .i64) _ _ _ 1 [.int .i64 1] from rfl) (Reps.one (show Kd.M (Kd.int .i64) _ _ _ 2 [.int .i64 2] from rfl) (Reps.one (show Kd.M (Kd.int .i64) _ _ _ 20 [.int .i64 20] from rfl) (Reps.one (show Kd.M (Kd.int .i64) _ _ _ 65535 [.int .i64 65535] from rfl) (Reps.none _ _)))))))
    intro v238 w18 ho19 hb hg_ hnew_
    clear hg_ hnew_
    (first|rw [←Ny237.1] at ho19|(simp only [Int.reduceToNat] at ho19;rw [←Ny237.1] at ho19))
    have n0_:=zM (Kd.R_elder' (zR HO_237000.1) (Kd.R_base ho19) hb)
    have n1_:=zM (Kd.R_lower (Kd.R_new' ho19 (Kd.R_lt (zR HO_237000.1))) (keep_size (w:=w) (g:=g) (row:=none) zB2))
    have n2_:=zM (zb BK227.1 hb)
    have n3_:=zM (zb BK236.1 hb)
    have n4_:=zM (IsS104.below zB16 hb)
    have n5_:=zM (KeepBut.trans zB2 (KeepBut.of_below hb g none) (.inl rfl))
    have n6_:=zM (below_step zB1 hb)
    clear HO_237000 BK227 BK236 HI0 HK HB
    have HO_237000:=n0_
    have HO239:=n1_
    have BK227:=n2_
    have BK236:=n3_
    have HI0:=n4_
    have HK:=n5_
    have HB:=n6_
    clear n0_ n1_ n2_ n3_ n4_ n5_ n6_ hb ho19
    obtain ⟨Ao20,co20,eo20⟩:=Kd.R_slice HO239.1
    (first|subst eo20|(injection eo20 with f1_ f2_ f3_;have f4_:=f1_.symm;have f5_:=f3_.symm;clear f1_ f2_ f3_;subst f4_;subst f5_))
    refine hK.out _ _ zCs fun hHeld=>?_
    clear hK K
    refine zNo ?_
    refine zOn 5 (some 17) fun K hK=>?_
    refine zGs Try.func84 #[.pointer (some ⟨g,0,none⟩),.slice Ao20 y237.length co20] ?_
    with_reducible refine (spec_l1PickInt.calls g s0_0 x1001_1 x1002_1 _ _ y237 t240 t241 t242 w0 _ ?side1 ?side2 ?side3 ?side4 ?side5 A13.1).mono ?_
    (case side1=>exact zB16)
    (case side2=>exact zB1)
    (case side3=>exact zC (Kd.R_reads' HO239.1).2.2)
    (case side4=>exact (Kd.R_reads' HO239.1).2.1)
    (case side5=>exact far_slice (IsS104.own_ne HI0.1 HO239.1 (by decide)))
    rintro e w21 ⟨rfl,hi,hb,hk⟩
    refine ⟨_,rfl,?_⟩
    replace HO_237000:=zM (Kd.R_mono (Kd.R_keep (IsS104.apart (show IsS104 w0 _ g s0_0 x1001_1 x1002_1 from zB16) (zR HO_237000.1) (by decide)) hk (fun _ h=>h.2)) (fun _ h=>h.1))
    replace BK227:=zM (zh hk BK227.1 NB227_0.1)
    replace BK236:=zM (zh hk BK236.1 NB236_0.1)
    replace HO239:=zM (Kd.R_mono (Kd.R_keep (IsS104.apart (show IsS104 w0 _ g s0_0 x1001_1 x1002_1 from zB16) (zR HO239.1) (by decide)) hk (fun _ h=>h.2)) (fun _ h=>h.1))
    replace HK:=zM (KeepBut.trans zB2 hk (.inl rfl))
    replace HB:=zM hb
    replace HI0:=zM hi
    have p16:0≤(x4_1:Int):=zA
    have q16:(x4_1:Int)<((x237000_1.length:Int):Int):=zA
    obtain ⟨go16,co16,eo16,gb16,gl16,cl16,HG16⟩:=Kd.R_form HO_237000.1 (by omega)
    (first|cases eo16|(injection eo16 with ea_ en_ ec_;(first|subst ea_|(injection ea_ with ea_;subst ea_));subst ec_;clear en_))
    have GB16:=zM gb16
    have GG16:=zM HG16
    clear gb16 gl16 HG16
    obtain ⟨hx16_0,hf16_0⟩:=Kd.R_celln 0 HO_237000.1 (x4_1:Int) p16 q16
    replace p16:=eq_true p16
    replace q16:=eq_true q16
    have HN0_go16:=zM (show g≠go16 from by have h_:=IsS104.own_ne HI0.1 HO_237000.1 (by decide);intro e_;exact h_ (by rw [e_];rfl))
    have HP22:=Kd.R_putn HO_237000.1 (x4_1:Int) t240
    rw [←Ny243.1] at HP22
    have HQ22:=zM HP22
    clear HP22
    refine hK.out _ _ zCs fun hHeld=>?_
    clear hK K
    refine zNo ?_
    refine zPu 6 ?_
    refine last_ (i:=7) (N:=none) #[true,true,true,true,true,true,true,true] rfl rfl (one_of HT_.1 (by kernel_rfl)) (by decide) (fun K hK=>?_)
    refine skip_ (w1:=?_) (by rfl) rfl ?_ ?_
    rotate_left
    ·go_simp
     rfl
    refine hK.out _ _ ?_
    clear hK K
    refine done_ (done_of HT_.1 (by kernel_rfl)) ?_
    try go_wp2
    go_roundg k1
    case measure=>have:=HK1.1;omega
    case rel=>exact ⟨(wrap64 (x4_1+1)),(t241),(t242),(y243),(.slice (some ⟨go16,0,none⟩) x237000_1.length co16),zJJ,H',⟨by have:=HK1.1;omega⟩,⟨by refine zrR ?_;exact Kd.R_mono HQ22.out (fun _ hk=>trivial)⟩,⟨by refine zP ?_;refine blk_far ?_ (by have h_:=Kd.R_ne HO_237000.1 BK227.1 (by decide);intro e_;exact h_ (by rw [e_];rfl)) _;refine zP ?_;exact BK227.1⟩,⟨by refine zP ?_;refine blk_far ?_ (by have h_:=Kd.R_ne HO_237000.1 BK236.1 (by decide);intro e_;exact h_ (by rw [e_];rfl)) _;refine zP ?_;exact BK236.1⟩,⟨zB19⟩,⟨zB2⟩,⟨zB21⟩⟩
   rw [if_neg c12] at H
   have c12b0:=decide_eq_false c12
   clear c12
   replace H:=zO H
   obtain ⟨⟨t244,t245,t246⟩,A23,H⟩:=H
   try dsimp only at H
   by_cases c24:t244=0
   ·rw [if_pos c24] at H
    have c24b0:(t244 == 0)=true:=beq_iff_eq.mpr c24
    have c24b1:(t244 != 0)=false:=bne_eq_false_iff_eq.mpr c24
    clear c24
    replace H:=zO H
    obtain ⟨⟨t247,t248,t249⟩,A25,H⟩:=H
    try dsimp only at H
    simp only [Option.some.injEq,Prod.mk.injEq] at H
    obtain ⟨rfl,rfl,rfl,rfl,rfl⟩:=H
    go_wp2_with (first|((with_reducible refine zG Try.func43 20 #[.pointer (some ⟨g,0,none⟩),.int .i64 12] ?_);(with_reducible refine (spec_l1Below.calls g s0_0 x1001_1 x1002_1 12 t244 t245 t246 w0 _ ?side1 ?side2 A23.1).mono ?_);(case side1=>exact zB16);(case side2=>exact zB1);rintro e w26 ⟨rfl,hi,hb,hk⟩;refine ⟨_,rfl,?_⟩;replace HO_237000:=zM (Kd.R_mono (Kd.R_keep (IsS104.apart (show IsS104 w0 _ g s0_0 x1001_1 x1002_1 from zB16) (zR HO_237000.1) (by decide)) hk (fun _ h=>h.2)) (fun _ h=>h.1));replace BK227:=zM (zh hk BK227.1 NB227_0.1);replace BK236:=zM (zh hk BK236.1 NB236_0.1);replace HK:=zM (KeepBut.trans zB2 hk (.inl rfl));replace HB:=zM hb;replace HI0:=zM hi;clear hb hk hi)|((with_reducible refine zG Try.func43 24 #[.pointer (some ⟨g,0,none⟩),.int .i64 5] ?_);(with_reducible refine (spec_l1Below.calls g s0_0 t245 t246 5 t247 t248 t249 w0 _ ?side1 ?side2 A25.1).mono ?_);(case side1=>exact zB16);(case side2=>exact zB1);rintro e w27 ⟨rfl,hi,hb,hk⟩;refine ⟨_,rfl,?_⟩;replace HO_237000:=zM (Kd.R_mono (Kd.R_keep (IsS104.apart (show IsS104 w0 _ g s0_0 t245 t246 from zB16) (zR HO_237000.1) (by decide)) hk (fun _ h=>h.2)) (fun _ h=>h.1));replace BK227:=zM (zh hk BK227.1 NB227_0.1);replace BK236:=zM (zh hk BK236.1 NB236_0.1);replace HK:=zM (KeepBut.trans zB2 hk (.inl rfl));replace HB:=zM hb;replace HI0:=zM hi;clear hb hk hi;have hnb28:=NB236_227.1;have hnc28:=NB227_236.1;have hnb29:=NB236_0.1;have hnc29:=NB0_236.1;have hcz30:=zc_3 (w:=w27) BK236.1;obtain ⟨Ao31,co31,eo31⟩:=Kd.R_slice HO_237000.1;subst eo31;have hnb32:=NB227_0.1;have hnc32:=NB0_227.1;have hcz33:=zc_3 (w:=w27) BK227.1))
    refine bodyPost_ret (results_cell_row rfl _ _ gb227 72 #[.slice Ao31 x237000_1.length co31,.int .i64 t234,.int .i64 (wrap64 (t247-1))] (0,0) _ rfl zPq Try.underlying72 rfl (by kernel_rfl)) rfl ?_
    exact ⟨_,zE,QR_of (by refine zrR ?_;exact Kd.R_mono (zfR (zfR (zfR (zgR (Kd.R_types (Kd.R_types HO_237000.1 BK236.1 (by decide)) BK227.1 (by decide)))))) (fun _ hk=>trivial)),zB16,zB1,zB2⟩
   rw [if_neg c24] at H
   have c24b0:(t244 == 0)=false:=beq_eq_false_iff_ne.mpr c24
   have c24b1:(t244 != 0)=true:=bne_iff_ne.mpr c24
   by_cases c34:t244=1
   rotate_left
   ·rw [if_neg c34] at H
    have c34b0:(t244 == 1)=false:=beq_eq_false_iff_ne.mpr c34
    have c34b1:(t244 != 1)=true:=bne_iff_ne.mpr c34
    by_cases c51:t244=2
    ·rw [if_pos c51] at H
     have c51b0:(t244 == 2)=true:=beq_iff_eq.mpr c51
     have c51b1:(t244 != 2)=false:=bne_eq_false_iff_eq.mpr c51
     clear c51
     generalize hy257:((([(-1),24]:List Int)):List Int)=y257 at H
     have Ny257:=zM hy257.symm
     clear hy257
     replace H:=zO H
     obtain ⟨⟨t260,t261,t262⟩,A52,H⟩:=H
     try dsimp only at H
     simp only [Option.some.injEq,Prod.mk.injEq] at H
     obtain ⟨rfl,rfl,rfl,rfl,rfl⟩:=H
     go_wp2_with (first|((with_reducible refine zG Try.func43 20 #[.pointer (some ⟨g,0,none⟩),.int .i64 12] ?_);(with_reducible refine (spec_l1Below.calls g s0_0 x1001_1 x1002_1 12 t244 t245 t246 w0 _ ?side1 ?side2 A23.1).mono ?_);(case side1=>exact zB16);(case side2=>exact zB1);rintro e w53 ⟨rfl,hi,hb,hk⟩;refine ⟨_,rfl,?_⟩;replace HO_237000:=zM (Kd.R_mono (Kd.R_keep (IsS104.apart (show IsS104 w0 _ g s0_0 x1001_1 x1002_1 from zB16) (zR HO_237000.1) (by decide)) hk (fun _ h=>h.2)) (fun _ h=>h.1));replace BK227:=zM (zh hk BK227.1 NB227_0.1);replace BK236:=zM (zh hk BK236.1 NB236_0.1);replace HK:=zM (KeepBut.trans zB2 hk (.inl rfl));replace HB:=zM hb;replace HI0:=zM hi;clear hb hk hi)|((with_reducible refine gate_dst (N:=38) rfl ?_);refine Kd.R_lit (Kd.int .i64) _ 3 ?hg (N:=38) ?hd (xs:=([(-1),24]:List Int)) (inner:=[.int .i64 (-1),.int .i64 24]) (ok:=fun _=>True) (okp:=fun _=>True) ?hr ?hp (fun _ hk=>hk) trivial (Below.refl _ _) (Nat.le_refl _) (by simp) ?_;(case hd=>rfl);(case hg=>rfl);(case hr=>exact zHH);(case hp=>exact (Reps.one (show Kd.M (Kd.int .i64) _ _ _ (-1) [.int .i64 (-1)] from rfl) (Reps.one (show Kd.M (Kd.int .i64) _ _ _ 24 [.int .i64 24] from rfl) (Reps.none _ _))));intro v258 w54 ho55 hb hg_ hnew_;clear hg_ hnew_;(first|rw [←Ny257.1] at ho55|(simp only [Int.reduceToNat] at ho55;rw [←Ny257.1] at ho55));have HO259:=zM (Kd.R_lower (Kd.R_new' ho55 (Kd.R_lt (zR HO_237000.1))) (keep_size (w:=w) (g:=g) (row:=none) zB2));replace HO_237000:=zM (Kd.R_elder' (zR HO_237000.1) (Kd.R_base ho55) hb);replace BK227:=zM (zb BK227.1 hb);replace BK236:=zM (zb BK236.1 hb);replace HK:=zM (KeepBut.trans zB2 (KeepBut.of_below hb g none) (.inl rfl));replace HB:=zM (below_step zB1 hb);replace HI0:=zM (IsS104.below zB16 hb);clear hb ho55;obtain ⟨Ao56,co56,eo56⟩:=Kd.R_slice HO259.1;subst eo56)|((with_reducible refine zG Try.func84 39 #[.pointer (some ⟨g,0,none⟩),.slice Ao56 y257.length co56] ?_);(with_reducible refine (spec_l1PickInt.calls g s0_0 t245 t246 _ _ y257 t260 t261 t262 w0 _ ?side1 ?side2 ?side3 ?side4 ?side5 A52.1).mono ?_);(case side1=>exact zB16);(case side2=>exact zB1);(case side3=>exact zC (Kd.R_reads' HO259.1).2.2);(case side4=>exact (Kd.R_reads' HO259.1).2.1);(case side5=>exact far_slice (IsS104.own_ne HI0.1 HO259.1 (by decide)));rintro e w57 ⟨rfl,hi,hb,hk⟩;refine ⟨_,rfl,?_⟩;replace HO_237000:=zM (Kd.R_mono (Kd.R_keep (IsS104.apart (show IsS104 w0 _ g s0_0 t245 t246 from zB16) (zR HO_237000.1) (by decide)) hk (fun _ h=>h.2)) (fun _ h=>h.1));replace BK227:=zM (zh hk BK227.1 NB227_0.1);replace BK236:=zM (zh hk BK236.1 NB236_0.1);replace HO259:=zM (Kd.R_mono (Kd.R_keep (IsS104.apart (show IsS104 w0 _ g s0_0 t245 t246 from zB16) (zR HO259.1) (by decide)) hk (fun _ h=>h.2)) (fun _ h=>h.1));replace HK:=zM (KeepBut.trans zB2 hk (.inl rfl));replace HB:=zM hb;replace HI0:=zM hi;clear hb hk hi;have hnb58:=NB236_227.1;have hnc58:=NB227_236.1;have hnb59:=NB236_0.1;have hnc59:=NB0_236.1;have hcz60:=zc_3 (w:=w57) BK236.1;obtain ⟨Ao61,co61,eo61⟩:=Kd.R_slice HO_237000.1;subst eo61;have hnb62:=NB227_0.1;have hnc62:=NB0_227.1;have hcz63:=zc_3 (w:=w57) BK227.1))
     refine bodyPost_ret (results_cell_row rfl _ _ gb227 72 #[.slice Ao61 x237000_1.length co61,.int .i64 t260,.int .i64 t235] (0,0) _ rfl zPq Try.underlying72 rfl (by kernel_rfl)) rfl ?_
     exact ⟨_,zE,QR_of (by refine zrR ?_;exact Kd.R_mono (zfR (zfR (zfR (zgR (Kd.R_types (Kd.R_types HO_237000.1 BK236.1 (by decide)) BK227.1 (by decide)))))) (fun _ hk=>trivial)),zB16,zB1,zB2⟩
    rw [if_neg c51] at H
    have c51b0:(t244 == 2)=false:=beq_eq_false_iff_ne.mpr c51
    have c51b1:(t244 != 2)=true:=bne_iff_ne.mpr c51
    by_cases c64:t244=3
    rotate_left
    ·rw [if_neg c64] at H
     have c64b0:(t244 == 3)=false:=beq_eq_false_iff_ne.mpr c64
     have c64b1:(t244 != 3)=true:=bne_iff_ne.mpr c64
     simp only [Option.some.injEq,Prod.mk.injEq] at H
     obtain ⟨rfl,rfl,rfl,rfl,rfl⟩:=H
     go_wp2_with (first|((with_reducible refine zG Try.func43 20 #[.pointer (some ⟨g,0,none⟩),.int .i64 12] ?_);(with_reducible refine (spec_l1Below.calls g s0_0 x1001_1 x1002_1 12 t244 t245 t246 w0 _ ?side1 ?side2 A23.1).mono ?_);(case side1=>exact zB16);(case side2=>exact zB1);rintro e w71 ⟨rfl,hi,hb,hk⟩;refine ⟨_,rfl,?_⟩;replace HO_237000:=zM (Kd.R_mono (Kd.R_keep (IsS104.apart (show IsS104 w0 _ g s0_0 x1001_1 x1002_1 from zB16) (zR HO_237000.1) (by decide)) hk (fun _ h=>h.2)) (fun _ h=>h.1));replace BK227:=zM (zh hk BK227.1 NB227_0.1);replace BK236:=zM (zh hk BK236.1 NB236_0.1);replace HK:=zM (KeepBut.trans zB2 hk (.inl rfl));replace HB:=zM hb;replace HI0:=zM hi;clear hb hk hi;have hnb72:=NB236_227.1;have hnc72:=NB227_236.1;have hnb73:=NB236_0.1;have hnc73:=NB0_236.1;have hcz74:=zc_3 (w:=w71) BK236.1;obtain ⟨Ao75,co75,eo75⟩:=Kd.R_slice HO_237000.1;subst eo75;have hnb76:=NB227_0.1;have hnc76:=NB0_227.1;have hcz77:=zc_3 (w:=w71) BK227.1))
     refine bodyPost_ret (results_cell_row rfl _ _ gb227 72 #[.slice Ao75 x237000_1.length co75,.int .i64 t234,.int .i64 t235] (0,0) _ rfl (by exact zp3 (zK BK227.1)) Try.underlying72 rfl (by kernel_rfl)) rfl ?_
     exact ⟨_,zE,QR_of (by refine zrR ?_;exact Kd.R_mono (zfR (zfR (zfR (Kd.R_types HO_237000.1 BK227.1 (by decide))))) (fun _ hk=>trivial)),zB16,zB1,zB2⟩
    rw [if_pos c64] at H
    have c64b0:(t244 == 3)=true:=beq_iff_eq.mpr c64
    have c64b1:(t244 != 3)=false:=bne_eq_false_iff_eq.mpr c64
    clear c64
    replace H:=zIp H
    obtain ⟨c65,H⟩:=H
    have HL4:=zM c65
    have c65b0:=eq_true (show 1≤(x237000_1.length:Int) by omega)
    have c65b1:decide (1≤(x237000_1.length:Int))=true:=decide_eq_true (by omega)
    clear c65
    generalize hy263:((x237000_1.drop (1:Int).toNat):List Int)=y263 at H
    have Ny263:=zM hy263.symm
    clear hy263
    simp only [Option.some.injEq,Prod.mk.injEq] at H
    obtain ⟨rfl,rfl,rfl,rfl,rfl⟩:=H
    have hQ_:=zM (Kd.Q_of_R HO_237000.1)
    clear HO_237000
    have HO_237000:=hQ_
    clear hQ_
    go_wp2_with (first|((with_reducible refine zG Try.func43 20 #[.pointer (some ⟨g,0,none⟩),.int .i64 12] ?_);(with_reducible refine (spec_l1Below.calls g s0_0 x1001_1 x1002_1 12 t244 t245 t246 w0 _ ?side1 ?side2 A23.1).mono ?_);(case side1=>exact zB16);(case side2=>exact zB1);rintro e w66 ⟨rfl,hi,hb,hk⟩;refine ⟨_,rfl,?_⟩;replace HO_237000:=zM (Kd.Q_mono (Kd.Q_keep (IsS104.apartQ (show IsS104 w0 _ g s0_0 x1001_1 x1002_1 from zB16) (zQ HO_237000.1) (by decide)) hk (fun _ h=>h.2)) (fun _ h=>h.1));replace BK227:=zM (zh hk BK227.1 NB227_0.1);replace BK236:=zM (zh hk BK236.1 NB236_0.1);replace HK:=zM (KeepBut.trans zB2 hk (.inl rfl));replace HB:=zM hb;replace HI0:=zM hi;clear hb hk hi;have hnb67:=NB236_227.1;have hnc67:=NB227_236.1;have hnb68:=NB236_0.1;have hnc68:=NB0_236.1;have hcz69:=zc_3 (w:=w66) BK236.1;obtain ⟨Ao70,co70,eo70,_⟩:=Kd.Q_slice HO_237000.1;subst eo70;have q71:(1:Int)≤((x237000_1.length:Int):Int):=zA;obtain ⟨i071,hi071,_,hsz71,_⟩:=info_parts info3;have hcut71:=cut_from (P:=Try.prog) 24 3 .i64 Try.underlying24 hi071 1 hsz71 Ao70 x237000_1.length co70 1 (by omega) q71;have hr71:=Kd.Q_drop (k:=(1:Int).toNat) HO_237000.1 (by omega);obtain ⟨A71,hA71⟩: ∃A1,A1=(if co70=(1:Int).toNat then Ao70 else (Ao70:Option Addr).map (·.add ((1:Int).toNat*1))):=⟨_,rfl⟩;obtain ⟨c71,hc71⟩: ∃c1,c1=co70-(1:Int).toNat:=⟨_,rfl⟩;have hy71:y263.length=x237000_1.length-(1:Int).toNat:=(by rw [Ny263.1,List.length_drop]);rw [←Ny263.1] at hr71;rw [←hy71,←hA71,←hc71] at hcut71;replace hr71:Kd.Q (Kd.int .i64) 3 w66 w.heap.size (fun _=>True) (.slice A71 y263.length c71) y263:=(by rw [hA71,hc71,hy71];exact hr71);have HE71:Aside0 ((Value.slice A71 y263.length c71).ownBlock=(.slice Ao70 x237000_1.length co70:Value).ownBlock):=⟨by rw [hA71];split<;>(cases (Ao70:Option Addr)<;>rfl)⟩;clear hy71 hi071 hsz71 HO_237000 hA71 hc71;have HO265:=zM hr71;clear hr71;replace q71:=eq_true q71;have hnb72:=NB227_0.1;have hnc72:=NB0_227.1;have hcz73:=zc_3 (w:=w66) BK227.1))
    refine bodyPost_ret (results_cell_row rfl _ _ gb227 72 #[.slice A71 y263.length c71,.int .i64 t234,.int .i64 t235] (0,0) _ rfl zPq Try.underlying72 rfl (by kernel_rfl)) rfl ?_
    exact ⟨_,zE,⟨by refine zrQ ?_;exact Kd.Q_mono (zfQ (zfQ (zfQ (zgQ (Kd.Q_types (Kd.Q_types HO265.1 BK236.1 (by decide)) BK227.1 (by decide)))))) (fun _ hk=>trivial),fun hl_=>absurd hl_ (by rw [Ny263.1,List.length_drop];have h4_:=HL4.1;simp only [Int.toNat_one];omega)⟩,zB16,zB1,zB2⟩
   rw [if_pos c34] at H
   have c34b0:(t244 == 1)=true:=beq_iff_eq.mpr c34
   have c34b1:(t244 != 1)=false:=bne_eq_false_iff_eq.mpr c34
   clear c34
   generalize hy250:((([(-1),65536]:List Int)):List Int)=y250 at H
   have Ny250:=zM hy250.symm
   clear hy250
   replace H:=zO H
   obtain ⟨⟨t253,t254,t255⟩,A35,H⟩:=H
   try dsimp only at H
   replace H:=zIp H
   obtain ⟨c36,H⟩:=H
   have c36b0:=decide_eq_true c36
   have c36b1:decide (0<x237000_1.length)=true:=decide_eq_true (by omega)
   clear c36
   generalize hy256:((x237000_1.set (0:Int).toNat t253):List Int)=y256 at H
   have Ny256:=zM hy256.symm
   clear hy256
   simp only [Option.some.injEq,Prod.mk.injEq] at H
   obtain ⟨rfl,rfl,rfl,rfl,rfl⟩:=H
   try go_wp2_with (first|((with_reducible refine zG Try.func43 20 #[.pointer (some ⟨g,0,none⟩),.int .i64 12] ?_);(with_reducible refine (spec_l1Below.calls g s0_0 x1001_1 x1002_1 12 t244 t245 t246 w0 _ ?side1 ?side2 A23.1).mono ?_);(case side1=>exact zB16);(case side2=>exact zB1);rintro e w38 ⟨rfl,hi,hb,hk⟩;refine ⟨_,rfl,?_⟩;replace HO_237000:=zM (Kd.R_mono (Kd.R_keep (IsS104.apart (show IsS104 w0 _ g s0_0 x1001_1 x1002_1 from zB16) (zR HO_237000.1) (by decide)) hk (fun _ h=>h.2)) (fun _ h=>h.1));replace BK227:=zM (zh hk BK227.1 NB227_0.1);replace BK236:=zM (zh hk BK236.1 NB236_0.1);replace HK:=zM (KeepBut.trans zB2 hk (.inl rfl));replace HB:=zM hb;replace HI0:=zM hi;clear hb hk hi))
   replace HO_237000:=zM (Kd.R_drew HO_237000.1)
   replace BK227:=zM (blk_drew BK227.1)
   replace BK236:=zM (blk_drew BK236.1)
   replace HI0:=zM (IsS104.drew HI0.1)
   replace HK:=zM (keep_drew HK.1)
   replace HB:=zM (below_drew1 HB.1)
   refine start_ (n:=7) (S:=fun w'=>w'.cell? ⟨gb236,0,none⟩=some (u237000)∧w'.cell? ⟨gb236,1,none⟩=some (.int .i64 t234)∧w'.cell? ⟨gb236,2,none⟩=some (.int .i64 t235)) (ds:=[6]) #[false,false,false,false,false,false,false] (by kernel_rfl) rfl rfl ⟨(blk_cell BK236.1 0).trans rfl,(blk_cell BK236.1 1).trans rfl,(blk_cell BK236.1 2).trans rfl⟩ (fun hHeld=>?_)
   generalize w38.drew=w39 at HO_237000 BK227 BK236 HI0 HK HB hHeld ⊢
   refine zPu 0 ?_
   refine zPu 2 ?_
   refine zTk3 1 hHeld ?_
   refine zOn 3 (some 32) fun K hK=>?_
   refine Kd.R_lit_step (Kd.int .i64) _ 3 ?hg (N:=32) ?hd (xs:=([(-1),65536]:List Int)) (inner:=[.int .i64 (-1),.int .i64 65536]) (ok:=fun _=>True) (okp:=fun _=>True) ?hr ?hp (fun _ hk=>hk) trivial (Below.refl _ _) (Nat.le_refl _) (by simp) ?_;(case hd=>rfl);(case hg=>rfl);(case hr=>exact zHH);(case hp=>exact (Reps.one (show Kd.M (Kd.int .i64) _ _ _ (-1) [.int .i64 (-1)] from rfl) (Reps.one (show Kd.M (Kd.int .i64) _ _ _ 65536 [.int .i64 65536] from rfl) (Reps.none _ _))))
   intro v251 w40 ho41 hb hg_ hnew_
   clear hg_ hnew_
   (first|rw [←Ny250.1] at ho41|(simp only [Int.reduceToNat] at ho41;rw [←Ny250.1] at ho41))
   have n0_:=zM (Kd.R_elder' (zR HO_237000.1) (Kd.R_base ho41) hb)
   have n1_:=zM (Kd.R_lower (Kd.R_new' ho41 (Kd.R_lt (zR HO_237000.1))) (keep_size (w:=w) (g:=g) (row:=none) zB2))
   have n2_:=zM (zb BK227.1 hb)
   have n3_:=zM (zb BK236.1 hb)
   have n4_:=zM (IsS104.below zB16 hb)
   have n5_:=zM (KeepBut.trans zB2 (KeepBut.of_below hb g none) (.inl rfl))
   have n6_:=zM (below_step zB1 hb)
   clear HO_237000 BK227 BK236 HI0 HK HB
   have HO_237000:=n0_
   have HO252:=n1_
   have BK227:=n2_
   have BK236:=n3_
   have HI0:=n4_
   have HK:=n5_
   have HB:=n6_
   clear n0_ n1_ n2_ n3_ n4_ n5_ n6_ hb ho41
   obtain ⟨Ao42,co42,eo42⟩:=Kd.R_slice HO252.1
   (first|subst eo42|(injection eo42 with f1_ f2_ f3_;have f4_:=f1_.symm;have f5_:=f3_.symm;clear f1_ f2_ f3_;subst f4_;subst f5_))
   refine hK.out _ _ zCs fun hHeld=>?_
   clear hK K
   refine zNo ?_
   refine zOn 4 (some 33) fun K hK=>?_
   refine zGs Try.func84 #[.pointer (some ⟨g,0,none⟩),.slice Ao42 y250.length co42] ?_
   with_reducible refine (spec_l1PickInt.calls g s0_0 t245 t246 _ _ y250 t253 t254 t255 w0 _ ?side1 ?side2 ?side3 ?side4 ?side5 A35.1).mono ?_
   (case side1=>exact zB16)
   (case side2=>exact zB1)
   (case side3=>exact zC (Kd.R_reads' HO252.1).2.2)
   (case side4=>exact (Kd.R_reads' HO252.1).2.1)
   (case side5=>exact far_slice (IsS104.own_ne HI0.1 HO252.1 (by decide)))
   rintro e w43 ⟨rfl,hi,hb,hk⟩
   refine ⟨_,rfl,?_⟩
   replace HO_237000:=zM (Kd.R_mono (Kd.R_keep (IsS104.apart (show IsS104 w0 _ g s0_0 t245 t246 from zB16) (zR HO_237000.1) (by decide)) hk (fun _ h=>h.2)) (fun _ h=>h.1))
   replace BK227:=zM (zh hk BK227.1 NB227_0.1)
   replace BK236:=zM (zh hk BK236.1 NB236_0.1)
   replace HO252:=zM (Kd.R_mono (Kd.R_keep (IsS104.apart (show IsS104 w0 _ g s0_0 t245 t246 from zB16) (zR HO252.1) (by decide)) hk (fun _ h=>h.2)) (fun _ h=>h.1))
   replace HK:=zM (KeepBut.trans zB2 hk (.inl rfl))
   replace HB:=zM hb
   replace HI0:=zM hi
   have p37:0≤(0:Int):=(by omega)
   have q37:(0:Int)<((x237000_1.length:Int):Int):=zA
   have qi37:(0<x237000_1.length)=True:=eq_true (by omega)
   obtain ⟨go37,co37,eo37,gb37,gl37,cl37,HG37⟩:=Kd.R_form HO_237000.1 (by omega)
   (first|cases eo37|(injection eo37 with ea_ en_ ec_;(first|subst ea_|(injection ea_ with ea_;subst ea_));subst ec_;clear en_))
   have GB37:=zM gb37
   have GG37:=zM HG37
   clear gb37 gl37 HG37
   obtain ⟨hx37_0,hf37_0⟩:=Kd.R_celln 0 HO_237000.1 (0:Int) p37 q37
   (try rw [show ((0:Int)).toNat=0 from rfl] at hx37_0)
   (try simp only [Nat.reduceMul,Nat.zero_mul,Nat.zero_add,Nat.reduceAdd] at hx37_0)
   (try rw [show ((0:Int)).toNat=0 from rfl] at hf37_0)
   (try simp only [Nat.reduceMul,Nat.zero_mul,Nat.zero_add,Nat.reduceAdd] at hf37_0)
   replace p37:=eq_true p37
   replace q37:=eq_true q37
   have HN0_go37:=zM (show g≠go37 from by have h_:=IsS104.own_ne HI0.1 HO_237000.1 (by decide);intro e_;exact h_ (by rw [e_];rfl))
   have HP44:=Kd.R_putn HO_237000.1 (0:Int) t253
   rw [←Ny256.1] at HP44
   have HQ44:=zM HP44
   clear HP44
   refine hK.out _ _ zCs fun hHeld=>?_
   clear hK K
   refine zNo ?_
   refine zPu 5 ?_
   refine last_ (i:=6) (N:=none) #[true,true,true,true,true,true,true] rfl rfl (by kernel_rfl) (by decide) (fun K hK=>?_)
   refine skip_ (w1:=?_) (by rfl) rfl ?_ ?_
   rotate_left
   ·go_simp
    rfl
   refine hK.out _ _ ?_
   clear hK K
   refine done_ (by kernel_rfl) ?_
   generalize hw_:(w43.setCell ⟨go37,0,none⟩ (.int .i64 t253))=w45
   have n0_:Aside0 (Kd.R (Kd.int .i64) 3 w45 w.heap.size (fun k_=>some k_≠(.slice Ao42 y250.length co42:Value).ownBlock) (.slice (some ⟨go37,0,none⟩) x237000_1.length co37) y256):=⟨by rw [←hw_];refine zrR ?_;exact Kd.R_mono HQ44.out (fun _ hk=>hk.2)⟩
   have n1_:Aside0 (Kd.R (Kd.int .i64) 3 w45 w.heap.size (fun k_=>some k_≠(.slice (some ⟨go37,0,none⟩) x237000_1.length co37:Value).ownBlock) (.slice Ao42 y250.length co42) y250):=⟨by rw [←hw_];refine zrR ?_;exact Kd.R_mono (zfR (Kd.R_mono HO252.1 (fun k_ hk=>(⟨hk,fun e_=>hk.2 (by rw [e_];rfl)⟩:_∧k_≠go37)))) (fun _ hk=>hk.1.2)⟩
   have n2_:Aside0 (w45.heap[gb227]? =some (.cells #[.slice none 0 0,.int .i64 0,.int .i64 0] 72 (0,0))):=⟨by rw [←hw_];refine zP ?_;refine blk_far ?_ (by have h_:=Kd.R_ne HO_237000.1 BK227.1 (by decide);intro e_;exact h_ (by rw [e_];rfl)) _;refine zP ?_;exact BK227.1⟩
   have n3_:Aside0 (w45.heap[gb236]? =some (.cells #[.slice (some ⟨go37,0,none⟩) x237000_1.length co37,.int .i64 t234,.int .i64 t235] 72 (0,0))):=⟨by rw [←hw_];refine zP ?_;refine blk_far ?_ (by have h_:=Kd.R_ne HO_237000.1 BK236.1 (by decide);intro e_;exact h_ (by rw [e_];rfl)) _;refine zP ?_;exact BK236.1⟩
   have n4_:Aside0 (IsS104 w0 w45 g s0_0 t254 t255):=⟨by rw [←hw_];exact zB22⟩
   have n5_:Aside0 (KeepBut w w45 g none):=⟨by rw [←hw_];exact zB2⟩
   have n6_:Aside0 (Below w0.heap.size w0 w45):=⟨by rw [←hw_];exact zB24⟩
   (try clear HO_237000)
   (try clear HO252)
   (try clear BK227)
   (try clear BK236)
   (try clear HI0)
   (try clear HK)
   (try clear HB)
   clear hw_
   have HO_237000:=n0_
   have HO252:=n1_
   have BK227:=n2_
   have BK236:=n3_
   have HI0:=n4_
   have HK:=n5_
   have HB:=n6_
   clear n0_ n1_ n2_ n3_ n4_ n5_ n6_
   have hnb46:=NB236_227.1
   have hnc46:=NB227_236.1
   have hnb47:=NB236_0.1
   have hnc47:=NB0_236.1
   have hcz48:=zc_3 (w:=w45) BK236.1
   have hnb49:=NB227_0.1
   have hnc49:=NB0_227.1
   have hcz50:=zc_3 (w:=w45) BK227.1
   try go_wp2
   refine bodyPost_ret (results_cell_row rfl _ _ gb227 72 #[.slice (some ⟨go37,0,none⟩) x237000_1.length co37,.int .i64 t234,.int .i64 t235] (0,0) _ rfl (by exact zp3 (zK BK227.1)) Try.underlying72 rfl (by kernel_rfl)) rfl ?_
   exact ⟨_,zE,QR_of (by refine zrR ?_;exact Kd.R_mono (zfR (zfR (zfR (Kd.R_types HO_237000.1 BK227.1 (by decide))))) (fun _ hk=>trivial)),zB16,zB1,zB2⟩

/-! ### spec_l1Words: function 48 -/
def spec_l1Words.l0:Nat→List Int→Int→Int→Option (Bool)
 |0,_,_,_=>none
 |k+1,x0,x1,x5=>if x5<(x0.length:Int) then (if 0≤x5 then ((spec_l1In.f (rd x0 x5) 0 65535).bind fun t264=>(if t264=true then (spec_l1Words.l0 k x0 x1 (wrap64 (x5+1))) else (some false))) else (none)) else (some ((x0.length:Int) == x1))
def spec_l1Words.f (k:Nat) (l0:List Int) (a1:Int):Option (Bool):=spec_l1Words.l0 k l0 a1 0
theorem spec_l1Words.mono_l: ∀k,(∀y0 y1 y2,LeO (spec_l1Words.l0 k y0 y1 y2) (spec_l1Words.l0 (k+1) y0 y1 y2))
 |0=>fun _ _ _ r h=>by simp [spec_l1Words.l0] at h
 |k+1=>by
  have ih0:=spec_l1Words.mono_l k
  ·intros
   unfold spec_l1Words.l0
   exact zL
theorem spec_l1Words.mono: ∀a0 a1 k,LeO (spec_l1Words.f k a0 a1) (spec_l1Words.f (k+1) a0 a1):=by
 intro a0 a1 k
 have ih0:=spec_l1Words.mono_l k
 unfold spec_l1Words.f
 exact zL
theorem spec_l1Words.calls (k:Nat) (A0:Option Addr) (c0:Nat) (l0:List Int) (a1:Int) (r:Bool) (w:World) (hr0:Kd.C (Kd.int .i64) w A0 l0.length l0) (hc0:l0.length≤c0) (h:spec_l1Words.f k l0 a1=some r):
  Calls Try.prog 48 #[.slice A0 l0.length c0,.int .i64 a1] w fun e w'=>e= .returned (.bool r)∧Drawn0 w w':=by
 have HR0:=zM hr0
 have HC0:=zM hc0
 clear hr0 hc0
 unfold spec_l1Words.f at h
 have H:=h
 clear h
 have H':=zM H
 clear H
 go_enter Try.func48,Try.ntmps48
 go_wp2
 go_loopg [5] k (fun kq v5 w'=>∃(x5_1:Int),v5= .int .i64 x5_1∧Aside0 (spec_l1Words.l0 kq l0 a1 x5_1=some r)∧Aside0 (kq≤k)∧Drawn0 w w')
 case atStart=>exact ⟨(0),zJJ,H',⟨Nat.le_refl _⟩,zDD⟩
 case round=>
  clear H'
  obtain ⟨x5_1,rfl,HA,HK1,⟨m1,rfl⟩⟩:=hrel
  cases gk with
  |zero=>exact absurd HA.1 (by simp [spec_l1Words.l0])
  |succ k1=>
   have H:=HA.1
   clear HA
   simp only [spec_l1Words.l0] at H
   by_cases c3:x5_1<(l0.length:Int)
   rotate_left
   ·rw [if_neg c3] at H
    have c3b0:=decide_eq_false c3
    clear c3
    obtain rfl:=Option.some.inj H
    go_wp2
    go_ret
    exact ⟨zJJ,zDD⟩
   rw [if_pos c3] at H
   have c3b0:=decide_eq_true c3
   clear c3
   replace H:=zIt H
   obtain ⟨c4b0,H⟩:=H
   replace H:=zO H
   obtain ⟨t264,A5,H⟩:=H
   by_cases c6:t264=true
   rotate_left
   ·replace c6:=Bool.eq_false_iff.mpr c6
    subst c6
    rw [if_neg zF] at H
    obtain rfl:=Option.some.inj H
    obtain ⟨p263,q263,ad263,e263,hx263_0⟩:=zRd (Kd.at_int HR0.1 x5_1)
    cases e263
    go_wp2_with (first|((with_reducible refine zG Try.func46 16 #[.int .i64 (rd l0 x5_1),.int .i64 0,.int .i64 65535] ?_);(with_reducible refine (spec_l1In.calls (rd l0 x5_1) 0 65535 false _ A5.1).mono ?_);rintro e w' ⟨rfl,⟨nd,rfl⟩⟩;refine ⟨_,rfl,?_⟩))
    go_ret
    exact ⟨zJJ,zDD⟩
   subst c6
   rw [if_pos rfl] at H
   have H':=zM H
   clear H
   obtain ⟨p263,q263,ad263,e263,hx263_0⟩:=zRd (Kd.at_int HR0.1 x5_1)
   cases e263
   go_wp2_with (first|((with_reducible refine zG Try.func46 16 #[.int .i64 (rd l0 x5_1),.int .i64 0,.int .i64 65535] ?_);(with_reducible refine (spec_l1In.calls (rd l0 x5_1) 0 65535 true _ A5.1).mono ?_);rintro e w' ⟨rfl,⟨nd,rfl⟩⟩;refine ⟨_,rfl,?_⟩))
   go_roundg k1
   case measure=>have:=HK1.1;omega
   case rel=>exact ⟨(wrap64 (x5_1+1)),zJJ,H',⟨by have:=HK1.1;omega⟩,zDD⟩

end Go.Proofs.Ytaakcbgpmabaaaa.PFnSeen
