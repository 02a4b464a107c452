-- made by wip/tools/myprint.py out of the seat's translation
import Derived.Test.YtpcgecacaemalaaPFnStopsx0
import Derived.Test.YtpcgecacaemalaaPFnStopsx2
import Derived.Test.YtpcgecacaemalaaPFnStopsx3
namespace Go.Proofs.Ytpcgecacaemalaa.PFnStops
open Go.RowKit Go.Proofs.YtpcgecacaemalaaW.PrintWords Go.Proofs.YtpcgecacaemalaaW.PrintLast Go.Proofs.YtpcgecacaemalaaW.PrintMore
attribute [local go_sem] max2_int min2_int max_two min_two max_three min_three max_four min_four -- for this text's walks alone
set_option linter.unusedVariables false
set_option linter.unusedSimpArgs false
set_option maxHeartbeats 8000000
set_option maxRecDepth 100000

/-! ### spec_HartNew: function 92 -/
def spec_HartNew.f (a0:Int):Option (List Int×Int×Int):=(spec_l9Address.f a0).bind fun t163=>(some ((List.replicate 4 0),t163,0))
theorem spec_HartNew.calls (a0:Int) (r1:List Int) (r2:Int) (r3:Int) (w:World) (h:spec_HartNew.f a0=some (r1,r2,r3)):
  Calls Try.prog 92 #[.int .i64 a0] w fun e w'=>∃v0_:Value,e= .returned (.agg #[v0_,.int .i64 r2,.int .i64 r3])∧Kd.R (Kd.int .i64) 3 w' w.heap.size (fun _=>True) v0_ r1∧Below w.heap.size w w':=by
 have hu53:=Try.underlying53
 have HB:=zM (Below.refl w.heap.size w)
 unfold spec_HartNew.f at h
 have H:=h
 clear h
 generalize hy160:((List.replicate 4 0):List Int)=y160 at H
 have Ny160:=zM hy160.symm
 clear hy160
 replace H:=zO H
 obtain ⟨t163,A2,H⟩:=H
 simp only [Option.some.injEq,Prod.mk.injEq] at H
 obtain ⟨rfl,rfl,rfl⟩:=H
 go_enter Try.func92,Try.ntmps92
 try go_wp2_with (first|((with_reducible refine zBx 2 53 #[.slice none 0 0,.int .i64 0,.int .i64 0] ?_);intro gb159 hg w3 hbox hb;have BK159:=zM hbox;have GW159:=zM (zW hg (below_size zB0));have GE159:=zM (zW hg (below_size zB0));replace HB:=zM (below_step zB0 hb);clear hb hbox hg))
 replace BK159:=zM (blk_drew BK159.1)
 replace HB:=zM (below_drew1 HB.1)
 refine start_ (n:=5) (S:=fun w'=>True) (ds:=[]) #[false,false,false,false,false] (by kernel_rfl) rfl rfl trivial (fun hHeld=>?_)
 generalize w3.drew=w4 at BK159 HB hHeld ⊢
 refine zPu 1 ?_
 refine join_ (σ:=Value) 2 #[true,true,true,false,false] (fun s_=>[(3,s_),(5,.int .i64 t163)]) (fun s_ w'=>(Kd.R (Kd.int .i64) 3 w' w.heap.size (fun _=>True) s_ y160)∧(w'.heap[gb159]? =some (.cells #[.slice none 0 0,.int .i64 0,.int .i64 0] 53 (0,0)))∧(Below w.heap.size w w')) ?_ ?_
 rotate_left
 ·intro hCont
  refine two_ (i:=0) (j:=2) (Ni:=some 3) (Nj:=some 5) #[true,true,false,false,false] #[false,true,true,false,false] rfl rfl rfl rfl (by kernel_rfl) (by decide) (by decide) (fun K hK=>?_) (fun K hK=>?_)
  ·refine Kd.R_make_step (Kd.int .i64) _ 3 (by rfl) (N:=3) rfl 24 _ _ rfl 4 rfl rfl Try.underlying24 (.int .i64 0) 8 info3 rfl (by decide) (by omega) 0 (ok:=fun _=>True) (okp:=fun _=>True) rfl (fun _ hk=>hk) trivial (by omega) (by omega) (Below.refl _ _) (Nat.le_refl _) ?_
   intro v161 w5 ho6 hb hg_ hnew_
   clear hg_ hnew_
   (first|rw [←Ny160.1] at ho6|(simp only [Int.reduceToNat] at ho6;rw [←Ny160.1] at ho6))
   replace HO162:=zM (Kd.R_lower ho6 (below_size zB0))
   replace BK159:=zM (zb BK159.1 hb)
   replace HB:=zM (below_step zB0 hb)
   refine hK.out _ _ trivial (fun hHeld=>?_)
   clear hK K
   refine zNo ?_
   refine zOn 2 (some 5) fun K hK=>?_
   refine zGs Try.func117 #[.int .i64 a0] ?_
   with_reducible refine (spec_l9Address.calls a0 t163 _ A2.1).mono ?_
   rintro e w' ⟨rfl,⟨nd,rfl⟩⟩
   refine ⟨_,rfl,?_⟩
   obtain ⟨Ao7,co7,eo7⟩:=Kd.R_slice HO162.1
   (first|subst eo7|(injection eo7 with f1_ f2_ f3_;have f4_:=f1_.symm;have f5_:=f3_.symm;clear f1_ f2_ f3_;subst f4_;subst f5_))
   refine hK.out _ _ trivial (fun hHeld=>?_)
   clear hK K
   refine zNo ?_
   exact norm_ zNr (hCont (.slice Ao7 y160.length co7) _ ⟨(zR HO162.1),(zK BK159.1),zB0⟩)
  ·refine zGs Try.func117 #[.int .i64 a0] ?_
   with_reducible refine (spec_l9Address.calls a0 t163 _ A2.1).mono ?_
   rintro e w' ⟨rfl,⟨nd,rfl⟩⟩
   refine ⟨_,rfl,?_⟩
   refine hK.out _ _ trivial (fun hHeld=>?_)
   clear hK K
   refine zNo ?_
   refine zOn 0 (some 3) fun K hK=>?_
   refine Kd.R_make_step (Kd.int .i64) _ 3 (by rfl) (N:=3) rfl 24 _ _ rfl 4 rfl rfl Try.underlying24 (.int .i64 0) 8 info3 rfl (by decide) (by omega) 0 (ok:=fun _=>True) (okp:=fun _=>True) rfl (fun _ hk=>hk) trivial (by omega) (by omega) (Below.refl _ _) (Nat.le_refl _) ?_
   intro v161 w5 ho6 hb hg_ hnew_
   clear hg_ hnew_
   (first|rw [←Ny160.1] at ho6|(simp only [Int.reduceToNat] at ho6;rw [←Ny160.1] at ho6))
   replace HO162:=zM (Kd.R_lower ho6 (below_size zB0))
   replace BK159:=zM (zb BK159.1 hb)
   replace HB:=zM (below_step zB0 hb)
   obtain ⟨Ao7,co7,eo7⟩:=Kd.R_slice HO162.1
   (first|subst eo7|(injection eo7 with f1_ f2_ f3_;have f4_:=f1_.symm;have f5_:=f3_.symm;clear f1_ f2_ f3_;subst f4_;subst f5_))
   refine hK.out _ _ trivial (fun hHeld=>?_)
   clear hK K
   refine zNo ?_
   exact norm_ zNr (hCont (.slice Ao7 y160.length co7) _ ⟨(zR HO162.1),(zK BK159.1),zB0⟩)
 rintro v161 w8 ⟨h0_,h1_,h2_⟩
 replace HO162:=zM h0_
 replace BK159:=zM h1_
 replace HB:=zM h2_
 have hHeld:=trivial
 obtain ⟨Ao9,co9,eo9⟩:=Kd.R_slice HO162.1
 (first|subst eo9|(injection eo9 with f1_ f2_ f3_;have f4_:=f1_.symm;have f5_:=f3_.symm;clear f1_ f2_ f3_;subst f4_;subst f5_))
 refine zNp ?_
 refine zPu 3 ?_
 refine zOn 4 none fun K hK=>?_
 obtain ⟨hs10,hfs10⟩:=zHs BK159.1 0
 obtain ⟨hs11,hfs11⟩:=zHs BK159.1 1
 obtain ⟨hs12,hfs12⟩:=zHs BK159.1 2
 refine skip_ (w1:=?_) (by rfl) rfl ?_ ?_
 rotate_left
 ·go_simp
  rfl
 refine hK.out _ _ trivial (fun hHeld=>?_)
 clear hK K
 refine done_ (by kernel_rfl) ?_
 try go_wp2
 refine bodyPost_ret (results_cell_row rfl _ _ gb159 53 #[.slice Ao9 y160.length co9,.int .i64 t163,.int .i64 0] (0,0) _ rfl (by exact zp3 (zK BK159.1)) Try.underlying53 rfl (by kernel_rfl)) rfl ?_
 exact ⟨_,zE,by refine zrR ?_;exact Kd.R_mono (zfR (zfR (zfR (Kd.R_types HO162.1 BK159.1 (by decide))))) (fun _ hk=>trivial),zB0⟩

/-! ### spec_l9DrawHart: function 84 -/
def spec_l9DrawHart.l0:Nat→Int→List Int→Int→Int→List Int→Int→Int→Option (List Int×Int×Int×Int×Int)
 |0,_,_,_,_,_,_,_=>none
 |k+1,x4,x1000,x1001,x1002,x174000,x174001,x174002=>if x4<4 then ((spec_l1PickInt.f x1000 x1001 x1002 (([0,1,2,20,65535]:List Int))).bind fun bt177=>(if 0≤x4 then (if x4<(x174000.length:Int) then (spec_l9DrawHart.l0 k (wrap64 (x4+1)) x1000 bt177.2.1 bt177.2.2 (x174000.set (x4:Int).toNat bt177.1) x174001 x174002) else (none)) else (none))) else ((spec_l1Below.f x1000 x1001 x1002 12).bind fun bt181=>(if bt181.1=0 then ((spec_l1Below.f x1000 bt181.2.1 bt181.2.2 5).bind fun bt184=>(some (x174000,x174001,wrap64 (bt184.1-1),bt184.2.1,bt184.2.2))) else (if bt181.1=1 then ((spec_l1PickInt.f x1000 bt181.2.1 bt181.2.2 (([(-1),65536]:List Int))).bind fun bt190=>(if 0<(x174000.length:Int) then (some ((x174000.set (0:Int).toNat bt190.1),x174001,x174002,bt190.2.1,bt190.2.2)) else (none))) else (if bt181.1=2 then ((spec_l1PickInt.f x1000 bt181.2.1 bt181.2.2 (([(-1),24]:List Int))).bind fun bt197=>(some (x174000,bt197.1,x174002,bt197.2.1,bt197.2.2))) else (if bt181.1=3 then (if 1≤(x174000.length:Int) then (some ((x174000.drop (1:Int).toNat),x174001,x174002,bt181.2.1,bt181.2.2)) else (none)) else (some (x174000,x174001,x174002,bt181.2.1,bt181.2.2)))))))
def spec_l9DrawHart.f (k:Nat) (s0_0:List Int) (s0_1:Int) (s0_2:Int):Option (List Int×Int×Int×Int×Int):=(spec_l1Below.f s0_0 s0_1 s0_2 20).bind fun bt165=>((spec_HartNew.f bt165.1).bind fun bt168=>(spec_l9DrawHart.l0 k 0 s0_0 bt165.2.1 bt165.2.2 bt168.1 bt168.2.1 bt168.2.2))
theorem spec_l9DrawHart.mono_l: ∀k,(∀y0 y1 y2 y3 y4 y5 y6,LeO (spec_l9DrawHart.l0 k y0 y1 y2 y3 y4 y5 y6) (spec_l9DrawHart.l0 (k+1) y0 y1 y2 y3 y4 y5 y6))
 |0=>fun _ _ _ _ _ _ _ r h=>by simp [spec_l9DrawHart.l0] at h
 |k+1=>by
  have ih0:=spec_l9DrawHart.mono_l k
  ·intros
   unfold spec_l9DrawHart.l0
   exact zL
theorem spec_l9DrawHart.mono: ∀a0 a1 a2 k,LeO (spec_l9DrawHart.f k a0 a1 a2) (spec_l9DrawHart.f (k+1) a0 a1 a2):=by
 intro a0 a1 a2 k
 have ih0:=spec_l9DrawHart.mono_l k
 unfold spec_l9DrawHart.f
 exact zL
def spec_l9DrawHart.T5:Bool×List (List Nat×List Nat):=(true,[([],[]),([0],[0]),([],[]),([],[]),([],[]),([3,4],[3,4]),([1,2,0,1,2,3,4,5],[1,2]),([6,5,5,0,1,2,3,4,5],[5,6])])
def spec_l9DrawHart.B5:List Nat:=[0,1,0,0,0,24,63,127]
theorem spec_l9DrawHart.tab5:rtab .any (opsOf Try.f84 5)=spec_l9DrawHart.T5:=by kernel_rfl
theorem spec_l9DrawHart.bits5:waitsOk spec_l9DrawHart.T5.2 spec_l9DrawHart.B5=true:=by kernel_rfl
theorem spec_l9DrawHart.calls (k:Nat) (g:Nat) (s0_0:List Int) (s0_1:Int) (s0_2:Int) (r1:List Int) (r2:Int) (r3:Int) (r4:Int) (r5:Int) (w0 w:World) (hI:IsS106 w0 w g s0_0 s0_1 s0_2) (hB:Below w0.heap.size w0 w) (h:spec_l9DrawHart.f k s0_0 s0_1 s0_2=some (r1,r2,r3,r4,r5)):
  Calls Try.prog 84 #[.pointer (some ⟨g,0,none⟩)] w fun e w'=>∃v0_:Value,e= .returned (.agg #[v0_,.int .i64 r2,.int .i64 r3])∧Kd.Q (Kd.int .i64) 3 w' w.heap.size (fun _=>True) v0_ r1∧IsS106 w0 w' g s0_0 r4 r5∧Below w0.heap.size w0 w'∧KeepBut w w' g none:=by
 have hu53:=Try.underlying53
 have HI0:=zM hI
 have HK:=zM (KeepBut.refl w g none)
 have HL:=zM hB.size
 clear hI
 have HW0:=zM hB.size
 have HB:=zM hB
 clear hB
 unfold spec_l9DrawHart.f at h
 have H:=h
 clear h
 replace H:=zO H
 obtain ⟨⟨t165,t166,t167⟩,A2,H⟩:=H
 try dsimp only at H
 replace H:=zO H
 obtain ⟨⟨t168,t171,t172⟩,A3,H⟩:=H
 try dsimp only at H
 have H':=zM H
 clear H
 go_enter Try.func84,Try.ntmps84
 go_wp2_with (first|((with_reducible refine zBx 2 53 #[.slice none 0 0,.int .i64 0,.int .i64 0] ?_);intro gb164 hg w4 hbox hb;replace HB:=zM (below_step zB7 hb);have BK164:=zM hbox;have GW164:=zM ((by rw [hg];exact (keep_size (w:=w) (g:=g) (row:=none) zB8):w.heap.size≤gb164));have GE164:=zM ((Nat.le_trans HW0.1 (by rw [hg];exact (keep_size (w:=w) (g:=g) (row:=none) zB8):w.heap.size≤gb164):w0.heap.size≤gb164));replace HK:=zM (KeepBut.trans zB8 (KeepBut.of_below hb g none) (.inl rfl));have NB0_164:=zM ((by rw [hg];exact Nat.ne_of_lt (IsS106.lt (show IsS106 w0 _ g s0_0 s0_1 s0_2 from zB6)):g≠gb164));have NB164_0:=zM ((by rw [hg];exact Nat.ne_of_gt (IsS106.lt (show IsS106 w0 _ g s0_0 s0_1 s0_2 from zB6)):gb164≠g));replace HI0:=zM (IsS106.below zB6 hb);clear hb hbox hg)|((with_reducible refine zG Try.func90 6 #[.pointer (some ⟨g,0,none⟩),.int .i64 20] ?_);(with_reducible refine (spec_l1Below.calls g s0_0 s0_1 s0_2 20 t165 t166 t167 w0 _ ?side1 ?side2 A2.1).mono ?_);(case side1=>exact zB16);(case side2=>exact zB7);rintro e w5 ⟨rfl,hi,hb,hk⟩;refine ⟨_,rfl,?_⟩;replace BK164:=zM (zh hk BK164.1 NB164_0.1);replace HK:=zM (KeepBut.trans zB8 hk (.inl rfl));replace HB:=zM hb;replace HI0:=zM hi;clear hb hk hi)|((with_reducible refine zG Try.func92 7 #[.int .i64 t165] ?_);(with_reducible refine (spec_HartNew.calls t165 t168 t171 t172 _ A3.1).mono ?_);rintro e w6 ⟨v169,rfl,ho0,hb⟩;refine ⟨_,rfl,?_⟩;have HO170:=zM (Kd.R_lower ho0 (keep_size (w:=w) (g:=g) (row:=none) zB8));replace BK164:=zM (zb BK164.1 hb);replace HK:=zM (KeepBut.trans zB8 (KeepBut.of_below hb g none) (.inl rfl));replace HB:=zM (below_step zB7 hb);replace HI0:=zM (IsS106.below zB16 hb);clear hb ho0)|((with_reducible refine zBx 3 53 #[.slice none 0 0,.int .i64 0,.int .i64 0] ?_);intro gb173 hg w7 hbox hb;replace HO170:=zM (Kd.R_below (zR HO170.1) hb);replace HB:=zM (below_step zB7 hb);have BK173:=zM hbox;have GW173:=zM ((by rw [hg];exact (keep_size (w:=w) (g:=g) (row:=none) zB8):w.heap.size≤gb173));have GE173:=zM ((Nat.le_trans HW0.1 (by rw [hg];exact (keep_size (w:=w) (g:=g) (row:=none) zB8):w.heap.size≤gb173):w0.heap.size≤gb173));replace HK:=zM (KeepBut.trans zB8 (KeepBut.of_below hb g none) (.inl rfl));have NB164_173:=zM ((zn BK164.1 hg:gb164≠gb173));have NB173_164:=zM ((zm BK164.1 hg:gb173≠gb164));replace BK164:=zM (zb BK164.1 hb);have NB0_173:=zM ((by rw [hg];exact Nat.ne_of_lt (IsS106.lt (show IsS106 w0 _ g s0_0 t166 t167 from zB16)):g≠gb173));have NB173_0:=zM ((by rw [hg];exact Nat.ne_of_gt (IsS106.lt (show IsS106 w0 _ g s0_0 t166 t167 from zB16)):gb173≠g));replace HI0:=zM (IsS106.below zB16 hb);clear hb hbox hg;obtain ⟨Ao8,co8,eo8⟩:=Kd.R_slice HO170.1;subst eo8;have hnb9:=NB173_164.1;have hnc9:=NB164_173.1;have hnb10:=NB173_0.1;have hnc10:=NB0_173.1;have hcz11:=zc_3 (w:=w7) BK173.1))
 go_loopg [4] k (fun kq v4 w'=>∃(x4_1:Int) (x1001_1:Int) (x1002_1:Int) (x174000_1:List Int) (u174000:Value),v4= .int .i64 x4_1∧Aside0 (spec_l9DrawHart.l0 kq x4_1 s0_0 x1001_1 x1002_1 x174000_1 t171 t172=some (r1,r2,r3,r4,r5))∧Aside0 (kq≤k)∧Aside0 (Kd.Q (Kd.int .i64) 3 w' w.heap.size (fun _=>True) u174000 x174000_1)∧Aside0 (w'.heap[gb164]? =some (.cells #[(.slice none 0 0),.int .i64 0,.int .i64 0] 53 (0,0)))∧Aside0 (w'.heap[gb173]? =some (.cells #[u174000,.int .i64 t171,.int .i64 t172] 53 (0,0)))∧Aside0 (IsS106 w0 w' g s0_0 x1001_1 x1002_1)∧Aside0 (KeepBut w w' g none)∧Aside0 (Below w0.heap.size w0 w'))
 case atStart=>exact ⟨(0),(t166),(t167),(t168),(.slice Ao8 t168.length co8),zJJ,H',⟨Nat.le_refl _⟩,⟨Kd.Q_of_R (by refine zrR ?_;exact Kd.R_mono (zfR (zfR (zfR (Kd.R_types HO170.1 BK173.1 (by decide))))) (fun _ hk=>trivial))⟩,⟨zPq⟩,⟨by exact zp3 (zK BK173.1)⟩,⟨zB19⟩,⟨zB8⟩,⟨zB7⟩⟩
 case round=>
  clear H'
  obtain ⟨x4_1,x1001_1,x1002_1,x174000_1,u174000,rfl,HA,HK1,HO_174000,BK164,BK173,HI0,HK,HB⟩:=hrel
  cases gk with
  |zero=>exact absurd HA.1 (by simp [spec_l9DrawHart.l0])
  |succ k1=>
   have H:=HA.1
   clear HA
   simp only [spec_l9DrawHart.l0] at H
   by_cases c12:x4_1<4
   ·rw [if_pos c12] at H
    have c12b0:=decide_eq_true c12
    clear c12
    generalize hy174:((([0,1,2,20,65535]:List Int)):List Int)=y174 at H
    have Ny174:=zM hy174.symm
    clear hy174
    replace H:=zO H
    obtain ⟨⟨t177,t178,t179⟩,A13,H⟩:=H
    try dsimp only at H
    replace H:=zIt H
    obtain ⟨c14b0,H⟩:=H
    replace H:=zIt H
    obtain ⟨c15b0,H⟩:=H
    generalize hy180:((x174000_1.set (x4_1:Int).toNat t177):List Int)=y180 at H
    have Ny180:=zM hy180.symm
    clear hy180
    have H':=zM H
    clear H
    try go_wp2
    replace HO_174000:=zM (Kd.Q_drew HO_174000.1)
    replace BK164:=zM (blk_drew BK164.1)
    replace BK173:=zM (blk_drew BK173.1)
    replace HI0:=zM (IsS106.drew HI0.1)
    replace HK:=zM (keep_drew HK.1)
    replace HB:=zM (below_drew1 HB.1)
    refine start_ (n:=8) (S:=fun w'=>w'.cell? ⟨gb173,0,none⟩=some (u174000)∧w'.cell? ⟨gb173,1,none⟩=some (.int .i64 t171)∧w'.cell? ⟨gb173,2,none⟩=some (.int .i64 t172)) (ds:=[7]) #[false,false,false,false,false,false,false,false] (by kernel_rfl) rfl rfl ⟨(blk_cell BK173.1 0).trans rfl,(blk_cell BK173.1 1).trans rfl,(blk_cell BK173.1 2).trans rfl⟩ (fun hHeld=>?_);refine with_tabW spec_l9DrawHart.tab5 spec_l9DrawHart.bits5 (fun HT_ HW_=>?_)
    generalize wr.drew=w17 at HO_174000 BK164 BK173 HI0 HK HB hHeld ⊢
    refine zPu 0 ?_
    refine zPu 2 ?_
    refine zPu 3 ?_
    refine zTk3 1 hHeld ?_
    refine zOn 4 (some 16) fun K hK=>?_
    refine Kd.R_lit_step (Kd.int .i64) _ 3 ?hg (N:=16) ?hd (xs:=([0,1,2,20,65535]:List Int)) (inner:=[.int .i64 0,.int .i64 1,.int .i64 2,.int .i64 20,.int .i64 65535]) (ok:=fun _=>True) (okp:=fun _=>True) ?hr ?hp (fun _ hk=>hk) trivial (Below.refl _ _) (Nat.le_refl _) (by simp) ?_;(case hd=>rfl);(case hg=>rfl);(case hr=>exact zHH);(case hp=>exact (Reps.one (show Kd.M (Kd.int .i64) _ _ _ 0 [.int .i64 0] from rfl) (Reps.one (show Kd.M (Kd.int .i64) _ _ _ 1 [.int .i64 1] from rfl) (Reps.one (show Kd.M (Kd.int .i64) _ _ _ 2 [.int .i64 2] from rfl) (Reps.one (show Kd.M (Kd.int .i64) _ _ _ 20 [.int .i64 20] from rfl) (Reps.one (show Kd.M (Kd.int .i64) _ _ _ 65535 [.int .i64 65535] from rfl) (Reps.none _ _)))))))
    intro v175 w18 ho19 hb hg_ hnew_
    clear hg_ hnew_
    (first|rw [←Ny174.1] at ho19|(simp only [Int.reduceToNat] at ho19;rw [←Ny174.1] at ho19))
    have n0_:=zM (Kd.Q_elder' (zQ HO_174000.1) (Kd.R_base ho19) hb)
    have n1_:=zM (Kd.R_lower (Kd.R_new' ho19 (Kd.Q_lt (zQ HO_174000.1))) (keep_size (w:=w) (g:=g) (row:=none) zB8))
    have n2_:=zM (zb BK164.1 hb)
    have n3_:=zM (zb BK173.1 hb)
    have n4_:=zM (IsS106.below zB19 hb)
    have n5_:=zM (KeepBut.trans zB8 (KeepBut.of_below hb g none) (.inl rfl))
    have n6_:=zM (below_step zB7 hb)
    clear HO_174000 BK164 BK173 HI0 HK HB
    have HO_174000:=n0_
    have HO176:=n1_
    have BK164:=n2_
    have BK173:=n3_
    have HI0:=n4_
    have HK:=n5_
    have HB:=n6_
    clear n0_ n1_ n2_ n3_ n4_ n5_ n6_ hb ho19
    obtain ⟨Ao20,co20,eo20⟩:=Kd.R_slice HO176.1
    (first|subst eo20|(injection eo20 with f1_ f2_ f3_;have f4_:=f1_.symm;have f5_:=f3_.symm;clear f1_ f2_ f3_;subst f4_;subst f5_))
    refine hK.out _ _ zCs fun hHeld=>?_
    clear hK K
    refine zNo ?_
    refine zOn 5 (some 17) fun K hK=>?_
    refine zGs Try.func91 #[.pointer (some ⟨g,0,none⟩),.slice Ao20 y174.length co20] ?_
    with_reducible refine (spec_l1PickInt.calls g s0_0 x1001_1 x1002_1 _ _ y174 t177 t178 t179 w0 _ ?side1 ?side2 ?side3 ?side4 ?side5 A13.1).mono ?_
    (case side1=>exact zB19)
    (case side2=>exact zB7)
    (case side3=>exact zC (Kd.R_reads' HO176.1).2.2)
    (case side4=>exact (Kd.R_reads' HO176.1).2.1)
    (case side5=>exact far_slice (IsS106.own_ne HI0.1 HO176.1 (by decide)))
    rintro e w21 ⟨rfl,hi,hb,hk⟩
    refine ⟨_,rfl,?_⟩
    replace HO_174000:=zM (Kd.Q_mono (Kd.Q_keep (IsS106.apartQ (show IsS106 w0 _ g s0_0 x1001_1 x1002_1 from zB19) (zQ HO_174000.1) (by decide)) hk (fun _ h=>h.2)) (fun _ h=>h.1))
    replace BK164:=zM (zh hk BK164.1 NB164_0.1)
    replace BK173:=zM (zh hk BK173.1 NB173_0.1)
    replace HO176:=zM (Kd.R_mono (Kd.R_keep (IsS106.apart (show IsS106 w0 _ g s0_0 x1001_1 x1002_1 from zB19) (zR HO176.1) (by decide)) hk (fun _ h=>h.2)) (fun _ h=>h.1))
    replace HK:=zM (KeepBut.trans zB8 hk (.inl rfl))
    replace HB:=zM hb
    replace HI0:=zM hi
    have p16:0≤(x4_1:Int):=zA
    have q16:(x4_1:Int)<((x174000_1.length:Int):Int):=zA
    obtain ⟨go16,oo16,co16,eo16,gb16,gl16,cl16,HG16⟩:=Kd.Q_form HO_174000.1 (by omega)
    (first|cases eo16|(injection eo16 with ea_ en_ ec_;(first|subst ea_|(injection ea_ with ea_;subst ea_));subst ec_;clear en_))
    have GB16:=zM gb16
    have GG16:=zM HG16
    clear gb16 gl16 HG16
    obtain ⟨hx16_0,hf16_0⟩:=Kd.Q_cell 0 HO_174000.1 (x4_1:Int) p16 q16
    replace p16:=eq_true p16
    replace q16:=eq_true q16
    have HN0_go16:=zM (show g≠go16 from by have h_:=IsS106.own_neQ HI0.1 HO_174000.1 (by decide);intro e_;exact h_ (by rw [e_];rfl))
    have HP22:=(Kd.Q_putg HO_174000.1 (x4_1:Int) zA (by have h_:(x4_1:Int)<((x174000_1.length:Int):Int):=zA;first|exact h_|(have e_:=(Kd.Q_reads' HO_174000.1).1;omega)|simpa using h_) t177).1
    rw [←Ny180.1] at HP22
    have HQ22:=zM HP22
    clear HP22
    refine hK.out _ _ zCs fun hHeld=>?_
    clear hK K
    refine zNo ?_
    refine zPu 6 ?_
    refine last_ (i:=7) (N:=none) #[true,true,true,true,true,true,true,true] rfl rfl (one_of HT_.1 (by kernel_rfl)) (by decide) (fun K hK=>?_)
    refine skip_ (w1:=?_) (by rfl) rfl ?_ ?_
    rotate_left
    ·go_simp
     rfl
    refine hK.out _ _ ?_
    clear hK K
    refine done_ (done_of HT_.1 (by kernel_rfl)) ?_
    try go_wp2
    go_roundg k1
    case measure=>have:=HK1.1;omega
    case rel=>exact ⟨(wrap64 (x4_1+1)),(t178),(t179),(y180),(.slice (some ⟨go16,oo16,none⟩) x174000_1.length co16),zJJ,H',⟨by have:=HK1.1;omega⟩,⟨by refine zrQ ?_;exact Kd.Q_mono HQ22.out (fun _ hk=>trivial)⟩,⟨by refine zP ?_;refine blk_far ?_ (by have h_:=Kd.Q_ne HO_174000.1 BK164.1 (by decide);intro e_;exact h_ (by rw [e_];rfl)) _;refine zP ?_;exact BK164.1⟩,⟨by refine zP ?_;refine blk_far ?_ (by have h_:=Kd.Q_ne HO_174000.1 BK173.1 (by decide);intro e_;exact h_ (by rw [e_];rfl)) _;refine zP ?_;exact BK173.1⟩,⟨zB22⟩,⟨zB8⟩,⟨zB24⟩⟩
   rw [if_neg c12] at H
   have c12b0:=decide_eq_false c12
   clear c12
   replace H:=zO H
   obtain ⟨⟨t181,t182,t183⟩,A23,H⟩:=H
   try dsimp only at H
   by_cases c24:t181=0
   ·rw [if_pos c24] at H
    have c24b0:(t181 == 0)=true:=beq_iff_eq.mpr c24
    have c24b1:(t181 != 0)=false:=bne_eq_false_iff_eq.mpr c24
    clear c24
    replace H:=zO H
    obtain ⟨⟨t184,t185,t186⟩,A25,H⟩:=H
    try dsimp only at H
    simp only [Option.some.injEq,Prod.mk.injEq] at H
    obtain ⟨rfl,rfl,rfl,rfl,rfl⟩:=H
    go_wp2_with (first|((with_reducible refine zG Try.func90 20 #[.pointer (some ⟨g,0,none⟩),.int .i64 12] ?_);(with_reducible refine (spec_l1Below.calls g s0_0 x1001_1 x1002_1 12 t181 t182 t183 w0 _ ?side1 ?side2 A23.1).mono ?_);(case side1=>exact zB19);(case side2=>exact zB7);rintro e w26 ⟨rfl,hi,hb,hk⟩;refine ⟨_,rfl,?_⟩;replace HO_174000:=zM (Kd.Q_mono (Kd.Q_keep (IsS106.apartQ (show IsS106 w0 _ g s0_0 x1001_1 x1002_1 from zB19) (zQ HO_174000.1) (by decide)) hk (fun _ h=>h.2)) (fun _ h=>h.1));replace BK164:=zM (zh hk BK164.1 NB164_0.1);replace BK173:=zM (zh hk BK173.1 NB173_0.1);replace HK:=zM (KeepBut.trans zB8 hk (.inl rfl));replace HB:=zM hb;replace HI0:=zM hi;clear hb hk hi)|((with_reducible refine zG Try.func90 24 #[.pointer (some ⟨g,0,none⟩),.int .i64 5] ?_);(with_reducible refine (spec_l1Below.calls g s0_0 t182 t183 5 t184 t185 t186 w0 _ ?side1 ?side2 A25.1).mono ?_);(case side1=>exact zB19);(case side2=>exact zB7);rintro e w27 ⟨rfl,hi,hb,hk⟩;refine ⟨_,rfl,?_⟩;replace HO_174000:=zM (Kd.Q_mono (Kd.Q_keep (IsS106.apartQ (show IsS106 w0 _ g s0_0 t182 t183 from zB19) (zQ HO_174000.1) (by decide)) hk (fun _ h=>h.2)) (fun _ h=>h.1));replace BK164:=zM (zh hk BK164.1 NB164_0.1);replace BK173:=zM (zh hk BK173.1 NB173_0.1);replace HK:=zM (KeepBut.trans zB8 hk (.inl rfl));replace HB:=zM hb;replace HI0:=zM hi;clear hb hk hi;have hnb28:=NB173_164.1;have hnc28:=NB164_173.1;have hnb29:=NB173_0.1;have hnc29:=NB0_173.1;have hcz30:=zc_3 (w:=w27) BK173.1;obtain ⟨Ao31,co31,eo31,_⟩:=Kd.Q_slice HO_174000.1;subst eo31;have hnb32:=NB164_0.1;have hnc32:=NB0_164.1;have hcz33:=zc_3 (w:=w27) BK164.1))
    refine bodyPost_ret (results_cell_row rfl _ _ gb164 53 #[.slice Ao31 x174000_1.length co31,.int .i64 t171,.int .i64 (wrap64 (t184-1))] (0,0) _ rfl zPq Try.underlying53 rfl (by kernel_rfl)) rfl ?_
    exact ⟨_,zE,by refine zrQ ?_;exact Kd.Q_mono (zfQ (zfQ (zfQ (zgQ (Kd.Q_types (Kd.Q_types HO_174000.1 BK173.1 (by decide)) BK164.1 (by decide)))))) (fun _ hk=>trivial),zB19,zB7,zB8⟩
   rw [if_neg c24] at H
   have c24b0:(t181 == 0)=false:=beq_eq_false_iff_ne.mpr c24
   have c24b1:(t181 != 0)=true:=bne_iff_ne.mpr c24
   by_cases c34:t181=1
   rotate_left
   ·rw [if_neg c34] at H
    have c34b0:(t181 == 1)=false:=beq_eq_false_iff_ne.mpr c34
    have c34b1:(t181 != 1)=true:=bne_iff_ne.mpr c34
    by_cases c51:t181=2
    ·rw [if_pos c51] at H
     have c51b0:(t181 == 2)=true:=beq_iff_eq.mpr c51
     have c51b1:(t181 != 2)=false:=bne_eq_false_iff_eq.mpr c51
     clear c51
     generalize hy194:((([(-1),24]:List Int)):List Int)=y194 at H
     have Ny194:=zM hy194.symm
     clear hy194
     replace H:=zO H
     obtain ⟨⟨t197,t198,t199⟩,A52,H⟩:=H
     try dsimp only at H
     simp only [Option.some.injEq,Prod.mk.injEq] at H
     obtain ⟨rfl,rfl,rfl,rfl,rfl⟩:=H
     go_wp2_with (first|((with_reducible refine zG Try.func90 20 #[.pointer (some ⟨g,0,none⟩),.int .i64 12] ?_);(with_reducible refine (spec_l1Below.calls g s0_0 x1001_1 x1002_1 12 t181 t182 t183 w0 _ ?side1 ?side2 A23.1).mono ?_);(case side1=>exact zB19);(case side2=>exact zB7);rintro e w53 ⟨rfl,hi,hb,hk⟩;refine ⟨_,rfl,?_⟩;replace HO_174000:=zM (Kd.Q_mono (Kd.Q_keep (IsS106.apartQ (show IsS106 w0 _ g s0_0 x1001_1 x1002_1 from zB19) (zQ HO_174000.1) (by decide)) hk (fun _ h=>h.2)) (fun _ h=>h.1));replace BK164:=zM (zh hk BK164.1 NB164_0.1);replace BK173:=zM (zh hk BK173.1 NB173_0.1);replace HK:=zM (KeepBut.trans zB8 hk (.inl rfl));replace HB:=zM hb;replace HI0:=zM hi;clear hb hk hi)|((with_reducible refine gate_dst (N:=38) rfl ?_);refine Kd.R_lit (Kd.int .i64) _ 3 ?hg (N:=38) ?hd (xs:=([(-1),24]:List Int)) (inner:=[.int .i64 (-1),.int .i64 24]) (ok:=fun _=>True) (okp:=fun _=>True) ?hr ?hp (fun _ hk=>hk) trivial (Below.refl _ _) (Nat.le_refl _) (by simp) ?_;(case hd=>rfl);(case hg=>rfl);(case hr=>exact zHH);(case hp=>exact (Reps.one (show Kd.M (Kd.int .i64) _ _ _ (-1) [.int .i64 (-1)] from rfl) (Reps.one (show Kd.M (Kd.int .i64) _ _ _ 24 [.int .i64 24] from rfl) (Reps.none _ _))));intro v195 w54 ho55 hb hg_ hnew_;clear hg_ hnew_;(first|rw [←Ny194.1] at ho55|(simp only [Int.reduceToNat] at ho55;rw [←Ny194.1] at ho55));have HO196:=zM (Kd.R_lower (Kd.R_new' ho55 (Kd.Q_lt (zQ HO_174000.1))) (keep_size (w:=w) (g:=g) (row:=none) zB8));replace HO_174000:=zM (Kd.Q_elder' (zQ HO_174000.1) (Kd.R_base ho55) hb);replace BK164:=zM (zb BK164.1 hb);replace BK173:=zM (zb BK173.1 hb);replace HK:=zM (KeepBut.trans zB8 (KeepBut.of_below hb g none) (.inl rfl));replace HB:=zM (below_step zB7 hb);replace HI0:=zM (IsS106.below zB19 hb);clear hb ho55;obtain ⟨Ao56,co56,eo56⟩:=Kd.R_slice HO196.1;subst eo56)|((with_reducible refine zG Try.func91 39 #[.pointer (some ⟨g,0,none⟩),.slice Ao56 y194.length co56] ?_);(with_reducible refine (spec_l1PickInt.calls g s0_0 t182 t183 _ _ y194 t197 t198 t199 w0 _ ?side1 ?side2 ?side3 ?side4 ?side5 A52.1).mono ?_);(case side1=>exact zB19);(case side2=>exact zB7);(case side3=>exact zC (Kd.R_reads' HO196.1).2.2);(case side4=>exact (Kd.R_reads' HO196.1).2.1);(case side5=>exact far_slice (IsS106.own_ne HI0.1 HO196.1 (by decide)));rintro e w57 ⟨rfl,hi,hb,hk⟩;refine ⟨_,rfl,?_⟩;replace HO_174000:=zM (Kd.Q_mono (Kd.Q_keep (IsS106.apartQ (show IsS106 w0 _ g s0_0 t182 t183 from zB19) (zQ HO_174000.1) (by decide)) hk (fun _ h=>h.2)) (fun _ h=>h.1));replace BK164:=zM (zh hk BK164.1 NB164_0.1);replace BK173:=zM (zh hk BK173.1 NB173_0.1);replace HO196:=zM (Kd.R_mono (Kd.R_keep (IsS106.apart (show IsS106 w0 _ g s0_0 t182 t183 from zB19) (zR HO196.1) (by decide)) hk (fun _ h=>h.2)) (fun _ h=>h.1));replace HK:=zM (KeepBut.trans zB8 hk (.inl rfl));replace HB:=zM hb;replace HI0:=zM hi;clear hb hk hi;have hnb58:=NB173_164.1;have hnc58:=NB164_173.1;have hnb59:=NB173_0.1;have hnc59:=NB0_173.1;have hcz60:=zc_3 (w:=w57) BK173.1;obtain ⟨Ao61,co61,eo61,_⟩:=Kd.Q_slice HO_174000.1;subst eo61;have hnb62:=NB164_0.1;have hnc62:=NB0_164.1;have hcz63:=zc_3 (w:=w57) BK164.1))
     refine bodyPost_ret (results_cell_row rfl _ _ gb164 53 #[.slice Ao61 x174000_1.length co61,.int .i64 t197,.int .i64 t172] (0,0) _ rfl zPq Try.underlying53 rfl (by kernel_rfl)) rfl ?_
     exact ⟨_,zE,by refine zrQ ?_;exact Kd.Q_mono (zfQ (zfQ (zfQ (zgQ (Kd.Q_types (Kd.Q_types HO_174000.1 BK173.1 (by decide)) BK164.1 (by decide)))))) (fun _ hk=>trivial),zB19,zB7,zB8⟩
    rw [if_neg c51] at H
    have c51b0:(t181 == 2)=false:=beq_eq_false_iff_ne.mpr c51
    have c51b1:(t181 != 2)=true:=bne_iff_ne.mpr c51
    by_cases c64:t181=3
    rotate_left
    ·rw [if_neg c64] at H
     have c64b0:(t181 == 3)=false:=beq_eq_false_iff_ne.mpr c64
     have c64b1:(t181 != 3)=true:=bne_iff_ne.mpr c64
     simp only [Option.some.injEq,Prod.mk.injEq] at H
     obtain ⟨rfl,rfl,rfl,rfl,rfl⟩:=H
     go_wp2_with (first|((with_reducible refine zG Try.func90 20 #[.pointer (some ⟨g,0,none⟩),.int .i64 12] ?_);(with_reducible refine (spec_l1Below.calls g s0_0 x1001_1 x1002_1 12 t181 t182 t183 w0 _ ?side1 ?side2 A23.1).mono ?_);(case side1=>exact zB19);(case side2=>exact zB7);rintro e w74 ⟨rfl,hi,hb,hk⟩;refine ⟨_,rfl,?_⟩;replace HO_174000:=zM (Kd.Q_mono (Kd.Q_keep (IsS106.apartQ (show IsS106 w0 _ g s0_0 x1001_1 x1002_1 from zB19) (zQ HO_174000.1) (by decide)) hk (fun _ h=>h.2)) (fun _ h=>h.1));replace BK164:=zM (zh hk BK164.1 NB164_0.1);replace BK173:=zM (zh hk BK173.1 NB173_0.1);replace HK:=zM (KeepBut.trans zB8 hk (.inl rfl));replace HB:=zM hb;replace HI0:=zM hi;clear hb hk hi;have hnb75:=NB173_164.1;have hnc75:=NB164_173.1;have hnb76:=NB173_0.1;have hnc76:=NB0_173.1;have hcz77:=zc_3 (w:=w74) BK173.1;obtain ⟨Ao78,co78,eo78,_⟩:=Kd.Q_slice HO_174000.1;subst eo78;have hnb79:=NB164_0.1;have hnc79:=NB0_164.1;have hcz80:=zc_3 (w:=w74) BK164.1))
     refine bodyPost_ret (results_cell_row rfl _ _ gb164 53 #[.slice Ao78 x174000_1.length co78,.int .i64 t171,.int .i64 t172] (0,0) _ rfl (by exact zp3 (zK BK164.1)) Try.underlying53 rfl (by kernel_rfl)) rfl ?_
     exact ⟨_,zE,by refine zrQ ?_;exact Kd.Q_mono (zfQ (zfQ (zfQ (Kd.Q_types HO_174000.1 BK164.1 (by decide))))) (fun _ hk=>trivial),zB19,zB7,zB8⟩
    rw [if_pos c64] at H
    have c64b0:(t181 == 3)=true:=beq_iff_eq.mpr c64
    have c64b1:(t181 != 3)=false:=bne_eq_false_iff_eq.mpr c64
    clear c64
    replace H:=zIp H
    obtain ⟨c65,H⟩:=H
    have c65b0:=eq_true c65
    have c65b1:decide (1≤(x174000_1.length:Int))=true:=decide_eq_true c65
    clear c65
    generalize hy200:((x174000_1.drop (1:Int).toNat):List Int)=y200 at H
    have Ny200:=zM hy200.symm
    clear hy200
    simp only [Option.some.injEq,Prod.mk.injEq] at H
    obtain ⟨rfl,rfl,rfl,rfl,rfl⟩:=H
    go_wp2_with (first|((with_reducible refine zG Try.func90 20 #[.pointer (some ⟨g,0,none⟩),.int .i64 12] ?_);(with_reducible refine (spec_l1Below.calls g s0_0 x1001_1 x1002_1 12 t181 t182 t183 w0 _ ?side1 ?side2 A23.1).mono ?_);(case side1=>exact zB19);(case side2=>exact zB7);rintro e w66 ⟨rfl,hi,hb,hk⟩;refine ⟨_,rfl,?_⟩;replace HO_174000:=zM (Kd.Q_mono (Kd.Q_keep (IsS106.apartQ (show IsS106 w0 _ g s0_0 x1001_1 x1002_1 from zB19) (zQ HO_174000.1) (by decide)) hk (fun _ h=>h.2)) (fun _ h=>h.1));replace BK164:=zM (zh hk BK164.1 NB164_0.1);replace BK173:=zM (zh hk BK173.1 NB173_0.1);replace HK:=zM (KeepBut.trans zB8 hk (.inl rfl));replace HB:=zM hb;replace HI0:=zM hi;clear hb hk hi;have hnb67:=NB173_164.1;have hnc67:=NB164_173.1;have hnb68:=NB173_0.1;have hnc68:=NB0_173.1;have hcz69:=zc_3 (w:=w66) BK173.1;obtain ⟨Ao70,co70,eo70,_⟩:=Kd.Q_slice HO_174000.1;subst eo70;have q71:(1:Int)≤((x174000_1.length:Int):Int):=zA;obtain ⟨i071,hi071,_,hsz71,_⟩:=info_parts info3;have hcut71:=cut_from (P:=Try.prog) 24 3 .i64 Try.underlying24 hi071 1 hsz71 Ao70 x174000_1.length co70 1 (by omega) q71;have hr71:=Kd.Q_drop (k:=(1:Int).toNat) HO_174000.1 (by omega);obtain ⟨A71,hA71⟩: ∃A1,A1=(if co70=(1:Int).toNat then Ao70 else (Ao70:Option Addr).map (·.add ((1:Int).toNat*1))):=⟨_,rfl⟩;obtain ⟨c71,hc71⟩: ∃c1,c1=co70-(1:Int).toNat:=⟨_,rfl⟩;have hy71:y200.length=x174000_1.length-(1:Int).toNat:=(by rw [Ny200.1,List.length_drop]);rw [←Ny200.1] at hr71;rw [←hy71,←hA71,←hc71] at hcut71;replace hr71:Kd.Q (Kd.int .i64) 3 w66 w.heap.size (fun _=>True) (.slice A71 y200.length c71) y200:=(by rw [hA71,hc71,hy71];exact hr71);have HE71:Aside0 ((Value.slice A71 y200.length c71).ownBlock=(.slice Ao70 x174000_1.length co70:Value).ownBlock):=⟨by rw [hA71];split<;>(cases (Ao70:Option Addr)<;>rfl)⟩;clear hy71 hi071 hsz71 HO_174000 hA71 hc71;have HO202:=zM hr71;clear hr71;replace q71:=eq_true q71;have hnb72:=NB164_0.1;have hnc72:=NB0_164.1;have hcz73:=zc_3 (w:=w66) BK164.1))
    refine bodyPost_ret (results_cell_row rfl _ _ gb164 53 #[.slice A71 y200.length c71,.int .i64 t171,.int .i64 t172] (0,0) _ rfl zPq Try.underlying53 rfl (by kernel_rfl)) rfl ?_
    exact ⟨_,zE,by refine zrQ ?_;exact Kd.Q_mono (zfQ (zfQ (zfQ (zgQ (Kd.Q_types (Kd.Q_types HO202.1 BK173.1 (by decide)) BK164.1 (by decide)))))) (fun _ hk=>trivial),zB19,zB7,zB8⟩
   rw [if_pos c34] at H
   have c34b0:(t181 == 1)=true:=beq_iff_eq.mpr c34
   have c34b1:(t181 != 1)=false:=bne_eq_false_iff_eq.mpr c34
   clear c34
   generalize hy187:((([(-1),65536]:List Int)):List Int)=y187 at H
   have Ny187:=zM hy187.symm
   clear hy187
   replace H:=zO H
   obtain ⟨⟨t190,t191,t192⟩,A35,H⟩:=H
   try dsimp only at H
   replace H:=zIp H
   obtain ⟨c36,H⟩:=H
   have c36b0:=decide_eq_true c36
   have c36b1:decide (0<x174000_1.length)=true:=decide_eq_true (by omega)
   clear c36
   generalize hy193:((x174000_1.set (0:Int).toNat t190):List Int)=y193 at H
   have Ny193:=zM hy193.symm
   clear hy193
   simp only [Option.some.injEq,Prod.mk.injEq] at H
   obtain ⟨rfl,rfl,rfl,rfl,rfl⟩:=H
   try go_wp2_with (first|((with_reducible refine zG Try.func90 20 #[.pointer (some ⟨g,0,none⟩),.int .i64 12] ?_);(with_reducible refine (spec_l1Below.calls g s0_0 x1001_1 x1002_1 12 t181 t182 t183 w0 _ ?side1 ?side2 A23.1).mono ?_);(case side1=>exact zB19);(case side2=>exact zB7);rintro e w38 ⟨rfl,hi,hb,hk⟩;refine ⟨_,rfl,?_⟩;replace HO_174000:=zM (Kd.Q_mono (Kd.Q_keep (IsS106.apartQ (show IsS106 w0 _ g s0_0 x1001_1 x1002_1 from zB19) (zQ HO_174000.1) (by decide)) hk (fun _ h=>h.2)) (fun _ h=>h.1));replace BK164:=zM (zh hk BK164.1 NB164_0.1);replace BK173:=zM (zh hk BK173.1 NB173_0.1);replace HK:=zM (KeepBut.trans zB8 hk (.inl rfl));replace HB:=zM hb;replace HI0:=zM hi;clear hb hk hi))
   replace HO_174000:=zM (Kd.Q_drew HO_174000.1)
   replace BK164:=zM (blk_drew BK164.1)
   replace BK173:=zM (blk_drew BK173.1)
   replace HI0:=zM (IsS106.drew HI0.1)
   replace HK:=zM (keep_drew HK.1)
   replace HB:=zM (below_drew1 HB.1)
   refine start_ (n:=7) (S:=fun w'=>w'.cell? ⟨gb173,0,none⟩=some (u174000)∧w'.cell? ⟨gb173,1,none⟩=some (.int .i64 t171)∧w'.cell? ⟨gb173,2,none⟩=some (.int .i64 t172)) (ds:=[6]) #[false,false,false,false,false,false,false] (by kernel_rfl) rfl rfl ⟨(blk_cell BK173.1 0).trans rfl,(blk_cell BK173.1 1).trans rfl,(blk_cell BK173.1 2).trans rfl⟩ (fun hHeld=>?_)
   generalize w38.drew=w39 at HO_174000 BK164 BK173 HI0 HK HB hHeld ⊢
   refine zPu 0 ?_
   refine zPu 2 ?_
   refine zTk3 1 hHeld ?_
   refine zOn 3 (some 32) fun K hK=>?_
   refine Kd.R_lit_step (Kd.int .i64) _ 3 ?hg (N:=32) ?hd (xs:=([(-1),65536]:List Int)) (inner:=[.int .i64 (-1),.int .i64 65536]) (ok:=fun _=>True) (okp:=fun _=>True) ?hr ?hp (fun _ hk=>hk) trivial (Below.refl _ _) (Nat.le_refl _) (by simp) ?_;(case hd=>rfl);(case hg=>rfl);(case hr=>exact zHH);(case hp=>exact (Reps.one (show Kd.M (Kd.int .i64) _ _ _ (-1) [.int .i64 (-1)] from rfl) (Reps.one (show Kd.M (Kd.int .i64) _ _ _ 65536 [.int .i64 65536] from rfl) (Reps.none _ _))))
   intro v188 w40 ho41 hb hg_ hnew_
   clear hg_ hnew_
   (first|rw [←Ny187.1] at ho41|(simp only [Int.reduceToNat] at ho41;rw [←Ny187.1] at ho41))
   have n0_:=zM (Kd.Q_elder' (zQ HO_174000.1) (Kd.R_base ho41) hb)
   have n1_:=zM (Kd.R_lower (Kd.R_new' ho41 (Kd.Q_lt (zQ HO_174000.1))) (keep_size (w:=w) (g:=g) (row:=none) zB8))
   have n2_:=zM (zb BK164.1 hb)
   have n3_:=zM (zb BK173.1 hb)
   have n4_:=zM (IsS106.below zB19 hb)
   have n5_:=zM (KeepBut.trans zB8 (KeepBut.of_below hb g none) (.inl rfl))
   have n6_:=zM (below_step zB7 hb)
   clear HO_174000 BK164 BK173 HI0 HK HB
   have HO_174000:=n0_
   have HO189:=n1_
   have BK164:=n2_
   have BK173:=n3_
   have HI0:=n4_
   have HK:=n5_
   have HB:=n6_
   clear n0_ n1_ n2_ n3_ n4_ n5_ n6_ hb ho41
   obtain ⟨Ao42,co42,eo42⟩:=Kd.R_slice HO189.1
   (first|subst eo42|(injection eo42 with f1_ f2_ f3_;have f4_:=f1_.symm;have f5_:=f3_.symm;clear f1_ f2_ f3_;subst f4_;subst f5_))
   refine hK.out _ _ zCs fun hHeld=>?_
   clear hK K
   refine zNo ?_
   refine zOn 4 (some 33) fun K hK=>?_
   refine zGs Try.func91 #[.pointer (some ⟨g,0,none⟩),.slice Ao42 y187.length co42] ?_
   with_reducible refine (spec_l1PickInt.calls g s0_0 t182 t183 _ _ y187 t190 t191 t192 w0 _ ?side1 ?side2 ?side3 ?side4 ?side5 A35.1).mono ?_
   (case side1=>exact zB19)
   (case side2=>exact zB7)
   (case side3=>exact zC (Kd.R_reads' HO189.1).2.2)
   (case side4=>exact (Kd.R_reads' HO189.1).2.1)
   (case side5=>exact far_slice (IsS106.own_ne HI0.1 HO189.1 (by decide)))
   rintro e w43 ⟨rfl,hi,hb,hk⟩
   refine ⟨_,rfl,?_⟩
   replace HO_174000:=zM (Kd.Q_mono (Kd.Q_keep (IsS106.apartQ (show IsS106 w0 _ g s0_0 t182 t183 from zB19) (zQ HO_174000.1) (by decide)) hk (fun _ h=>h.2)) (fun _ h=>h.1))
   replace BK164:=zM (zh hk BK164.1 NB164_0.1)
   replace BK173:=zM (zh hk BK173.1 NB173_0.1)
   replace HO189:=zM (Kd.R_mono (Kd.R_keep (IsS106.apart (show IsS106 w0 _ g s0_0 t182 t183 from zB19) (zR HO189.1) (by decide)) hk (fun _ h=>h.2)) (fun _ h=>h.1))
   replace HK:=zM (KeepBut.trans zB8 hk (.inl rfl))
   replace HB:=zM hb
   replace HI0:=zM hi
   have p37:0≤(0:Int):=(by omega)
   have q37:(0:Int)<((x174000_1.length:Int):Int):=zA
   have qi37:(0<x174000_1.length)=True:=eq_true (by omega)
   obtain ⟨go37,oo37,co37,eo37,gb37,gl37,cl37,HG37⟩:=Kd.Q_form HO_174000.1 (by omega)
   (first|cases eo37|(injection eo37 with ea_ en_ ec_;(first|subst ea_|(injection ea_ with ea_;subst ea_));subst ec_;clear en_))
   have GB37:=zM gb37
   have GG37:=zM HG37
   clear gb37 gl37 HG37
   obtain ⟨hx37_0,hf37_0⟩:=Kd.Q_cell 0 HO_174000.1 (0:Int) p37 q37
   (try rw [show ((0:Int)).toNat=0 from rfl] at hx37_0)
   (try simp only [Nat.reduceMul,Nat.zero_mul,Nat.zero_add,Nat.add_zero,Nat.reduceAdd] at hx37_0)
   (try rw [show ((0:Int)).toNat=0 from rfl] at hf37_0)
   (try simp only [Nat.reduceMul,Nat.zero_mul,Nat.zero_add,Nat.add_zero,Nat.reduceAdd] at hf37_0)
   replace p37:=eq_true p37
   replace q37:=eq_true q37
   have HN0_go37:=zM (show g≠go37 from by have h_:=IsS106.own_neQ HI0.1 HO_174000.1 (by decide);intro e_;exact h_ (by rw [e_];rfl))
   have HP44:=(Kd.Q_putg HO_174000.1 (0:Int) (by omega) (by have h_:(0:Int)<((x174000_1.length:Int):Int):=zA;first|exact h_|(have e_:=(Kd.Q_reads' HO_174000.1).1;omega)|simpa using h_) t190).1
   rw [←Ny193.1] at HP44
   have HQ44:=zM HP44
   clear HP44
   refine hK.out _ _ zCs fun hHeld=>?_
   clear hK K
   refine zNo ?_
   refine zPu 5 ?_
   refine last_ (i:=6) (N:=none) #[true,true,true,true,true,true,true] rfl rfl (by kernel_rfl) (by decide) (fun K hK=>?_)
   refine skip_ (w1:=?_) (by rfl) rfl ?_ ?_
   rotate_left
   ·go_simp
    rfl
   refine hK.out _ _ ?_
   clear hK K
   refine done_ (by kernel_rfl) ?_
   generalize hw_:(w43.setCell ⟨go37,oo37,none⟩ (.int .i64 t190))=w45
   have n0_:Aside0 (Kd.Q (Kd.int .i64) 3 w45 w.heap.size (fun k_=>some k_≠(.slice Ao42 y187.length co42:Value).ownBlock) (.slice (some ⟨go37,oo37,none⟩) x174000_1.length co37) y193):=⟨by rw [←hw_];refine zrQ ?_;exact Kd.Q_mono HQ44.out (fun _ hk=>hk.2)⟩
   have n1_:Aside0 (Kd.R (Kd.int .i64) 3 w45 w.heap.size (fun k_=>some k_≠(.slice (some ⟨go37,oo37,none⟩) x174000_1.length co37:Value).ownBlock) (.slice Ao42 y187.length co42) y187):=⟨by rw [←hw_];refine zrR ?_;exact Kd.R_mono (Kd.R_far (p:=⟨go37,oo37,none⟩) (Kd.R_mono HO189.1 (fun k_ hk=>(⟨hk,fun e_=>hk.2 (by rw [e_];rfl)⟩:_∧k_≠go37))) (fun _ hk=>hk.2) (.int .i64 t190)) (fun _ hk=>hk.1.2)⟩
   have n2_:Aside0 (w45.heap[gb164]? =some (.cells #[.slice none 0 0,.int .i64 0,.int .i64 0] 53 (0,0))):=⟨by rw [←hw_];refine zP ?_;refine blk_far ?_ (by have h_:=Kd.Q_ne HO_174000.1 BK164.1 (by decide);intro e_;exact h_ (by rw [e_];rfl)) _;refine zP ?_;exact BK164.1⟩
   have n3_:Aside0 (w45.heap[gb173]? =some (.cells #[.slice (some ⟨go37,oo37,none⟩) x174000_1.length co37,.int .i64 t171,.int .i64 t172] 53 (0,0))):=⟨by rw [←hw_];refine zP ?_;refine blk_far ?_ (by have h_:=Kd.Q_ne HO_174000.1 BK173.1 (by decide);intro e_;exact h_ (by rw [e_];rfl)) _;refine zP ?_;exact BK173.1⟩
   have n4_:Aside0 (IsS106 w0 w45 g s0_0 t191 t192):=⟨by rw [←hw_];exact zB25⟩
   have n5_:Aside0 (KeepBut w w45 g none):=⟨by rw [←hw_];exact zB8⟩
   have n6_:Aside0 (Below w0.heap.size w0 w45):=⟨by rw [←hw_];exact zB27⟩
   (try clear HO_174000)
   (try clear HO189)
   (try clear BK164)
   (try clear BK173)
   (try clear HI0)
   (try clear HK)
   (try clear HB)
   clear hw_
   have HO_174000:=n0_
   have HO189:=n1_
   have BK164:=n2_
   have BK173:=n3_
   have HI0:=n4_
   have HK:=n5_
   have HB:=n6_
   clear n0_ n1_ n2_ n3_ n4_ n5_ n6_
   have hnb46:=NB173_164.1
   have hnc46:=NB164_173.1
   have hnb47:=NB173_0.1
   have hnc47:=NB0_173.1
   have hcz48:=zc_3 (w:=w45) BK173.1
   have hnb49:=NB164_0.1
   have hnc49:=NB0_164.1
   have hcz50:=zc_3 (w:=w45) BK164.1
   try go_wp2
   refine bodyPost_ret (results_cell_row rfl _ _ gb164 53 #[.slice (some ⟨go37,oo37,none⟩) x174000_1.length co37,.int .i64 t171,.int .i64 t172] (0,0) _ rfl (by exact zp3 (zK BK164.1)) Try.underlying53 rfl (by kernel_rfl)) rfl ?_
   exact ⟨_,zE,by refine zrQ ?_;exact Kd.Q_mono (zfQ (zfQ (zfQ (Kd.Q_types HO_174000.1 BK164.1 (by decide))))) (fun _ hk=>trivial),zB19,zB7,zB8⟩

/-! ### spec_l1In: function 68 -/
def spec_l1In.f (a0:Int) (a1:Int) (a2:Int):Option (Bool):=if a0≥a1 then (some (decide (a0≤a2))) else (some false)
theorem spec_l1In.calls (a0:Int) (a1:Int) (a2:Int) (r:Bool) (w:World) (h:spec_l1In.f a0 a1 a2=some r):
  Calls Try.prog 68 #[.int .i64 a0,.int .i64 a1,.int .i64 a2] w fun e w'=>e= .returned (.bool r)∧Drawn0 w w':=by
 unfold spec_l1In.f at h
 have H:=h
 clear h
 by_cases c4:a0≥a1
 ·rw [if_pos c4] at H
  have c4b0:=decide_eq_true c4
  clear c4
  obtain rfl:=Option.some.inj H
  go_enter Try.func68,Try.ntmps68
  go_wp2
  go_ret
  exact ⟨zJJ,zDD⟩
 rw [if_neg c4] at H
 have c4b0:=decide_eq_false c4
 clear c4
 obtain rfl:=Option.some.inj H
 go_enter Try.func68,Try.ntmps68
 go_wp2
 go_ret
 exact ⟨zJJ,zDD⟩

/-! ### spec_l8Has: function 126 -/
def spec_l8Has.f (a0:Int):Option (Int):=(spec_l1In.f a0 1 10).bind fun t203=>(if t203=true then ((some (([0,9,7,11,11,14,15,10,8,0,7]:List Int):List Int)).bind fun y204=>(if 0≤a0 then (if a0<(y204.length:Int) then (some (rd y204 a0)) else (none)) else (none))) else (some 0))
theorem spec_l8Has.calls (a0:Int) (r:Int) (w:World) (h:spec_l8Has.f a0=some r):
  Calls Try.prog 126 #[.int .i64 a0] w fun e w'=>e= .returned (.int .i64 r)∧Below w.heap.size w w':=by
 have HB:=zM (Below.refl w.heap.size w)
 unfold spec_l8Has.f at h
 have H:=h
 clear h
 replace H:=zO H
 obtain ⟨t203,A2,H⟩:=H
 by_cases c3:t203=true
 rotate_left
 ·replace c3:=Bool.eq_false_iff.mpr c3
  subst c3
  rw [if_neg zF] at H
  obtain rfl:=Option.some.inj H
  go_enter Try.func126,Try.ntmps126
  go_wp2_with (first|((with_reducible refine zG Try.func68 4 #[.int .i64 a0,.int .i64 1,.int .i64 10] ?_);(with_reducible refine (spec_l1In.calls a0 1 10 false _ A2.1).mono ?_);rintro e w' ⟨rfl,⟨nd,rfl⟩⟩;refine ⟨_,rfl,?_⟩))
  go_ret
  exact ⟨zE,zB0⟩
 subst c3
 rw [if_pos rfl] at H
 replace H:=zY H
 obtain ⟨y204,Ny204,H⟩:=H
 replace H:=zIt H
 obtain ⟨c4b0,H⟩:=H
 replace H:=zIt H
 obtain ⟨c5b0,H⟩:=H
 obtain rfl:=Option.some.inj H
 go_enter Try.func126,Try.ntmps126
 go_wp2_with (first|((with_reducible refine zG Try.func68 4 #[.int .i64 a0,.int .i64 1,.int .i64 10] ?_);(with_reducible refine (spec_l1In.calls a0 1 10 true _ A2.1).mono ?_);rintro e w' ⟨rfl,⟨nd,rfl⟩⟩;refine ⟨_,rfl,?_⟩)|((with_reducible refine gate_dst (N:=6) rfl ?_);refine Kd.R_lit (Kd.int .i64) _ 3 ?hg (N:=6) ?hd (xs:=([0,9,7,11,11,14,15,10,8,0,7]:List Int)) (inner:=[.int .i64 0,.int .i64 9,.int .i64 7,.int .i64 11,.int .i64 11,.int .i64 14,.int .i64 15,.int .i64 10,.int .i64 8,.int .i64 0,.int .i64 7]) (ok:=fun _=>True) (okp:=fun _=>True) ?hr ?hp (fun _ hk=>hk) trivial (Below.refl _ _) (Nat.le_refl _) (by simp) ?_;(case hd=>rfl);(case hg=>rfl);(case hr=>exact zHH);(case hp=>exact (Reps.one (show Kd.M (Kd.int .i64) _ _ _ 0 [.int .i64 0] from rfl) (Reps.one (show Kd.M (Kd.int .i64) _ _ _ 9 [.int .i64 9] from rfl) (Reps.one (show Kd.M (Kd.int .i64) _ _ _ 7 [.int .i64 7] from rfl) (Reps.one (show Kd.M (Kd.int .i64) _ _ _ 11 [.int .i64 11] from rfl) (Reps.one (show Kd.M (Kd.int .i64) _ _ _ 11 [.int .i64 11] from rfl) (Reps.one (show Kd.M (Kd.int .i64) _ _ _ 14 [.int .i64 14] from rfl) (Reps.one (show Kd.M (Kd.int .i64) _ _ _ 15 [.int .i64 15] from rfl) (Reps.one (show Kd.M (Kd.int .i64) _ _ _ 10 [.int .i64 10] from rfl) (Reps.one (show Kd.M (Kd.int .i64) _ _ _ 8 [.int .i64 8] from rfl) (Reps.one (show Kd.M (Kd.int .i64) _ _ _ 0 [.int .i64 0] from rfl) (Reps.one (show Kd.M (Kd.int .i64) _ _ _ 7 [.int .i64 7] from rfl) (Reps.none _ _)))))))))))));intro v205 w6 ho7 hb hg_ hnew_;clear hg_ hnew_;(first|rw [←Ny204.1] at ho7|(simp only [Int.reduceToNat] at ho7;rw [←Ny204.1] at ho7));have HO206:=zM (Kd.R_lower ho7 (below_size zB0));replace HB:=zM (below_step zB0 hb);clear hb ho7;obtain ⟨Ao8,co8,eo8⟩:=Kd.R_slice HO206.1;subst eo8;obtain ⟨p207,q207,ad207,e207,hx207_0⟩:=zRd (Kd.at_int (Kd.R_reads' HO206.1).2.2 a0);cases e207))
 go_ret
 exact ⟨zE,zB0⟩

/-! ### spec_l8Field: function 129 -/
def spec_l8Field.f (a0:Int) (a1:Int) (a2:Bool):Option (Bool):=(spec_l1In.f a0 0 a1).bind fun t208=>(if t208=true then (if a2=true then (some true) else (some (a0 == 0))) else (some false))
theorem spec_l8Field.calls (a0:Int) (a1:Int) (a2:Bool) (r:Bool) (w:World) (h:spec_l8Field.f a0 a1 a2=some r):
  Calls Try.prog 129 #[.int .i64 a0,.int .i64 a1,.bool a2] w fun e w'=>e= .returned (.bool r)∧Drawn0 w w':=by
 unfold spec_l8Field.f at h
 have H:=h
 clear h
 replace H:=zO H
 obtain ⟨t208,A4,H⟩:=H
 by_cases c5:t208=true
 rotate_left
 ·replace c5:=Bool.eq_false_iff.mpr c5
  subst c5
  rw [if_neg zF] at H
  obtain rfl:=Option.some.inj H
  go_enter Try.func129,Try.ntmps129
  go_wp2_with (first|((with_reducible refine zG Try.func68 9 #[.int .i64 a0,.int .i64 0,.int .i64 a1] ?_);(with_reducible refine (spec_l1In.calls a0 0 a1 false _ A4.1).mono ?_);rintro e w' ⟨rfl,⟨nd,rfl⟩⟩;refine ⟨_,rfl,?_⟩))
  go_ret
  exact ⟨zJJ,zDD⟩
 subst c5
 rw [if_pos rfl] at H
 by_cases c6:a2=true
 ·subst c6
  rw [if_pos rfl] at H
  obtain rfl:=Option.some.inj H
  go_enter Try.func129,Try.ntmps129
  go_wp2_with (first|((with_reducible refine zG Try.func68 9 #[.int .i64 a0,.int .i64 0,.int .i64 a1] ?_);(with_reducible refine (spec_l1In.calls a0 0 a1 true _ A4.1).mono ?_);rintro e w' ⟨rfl,⟨nd,rfl⟩⟩;refine ⟨_,rfl,?_⟩))
  go_ret
  exact ⟨zJJ,zDD⟩
 replace c6:=Bool.eq_false_iff.mpr c6
 subst c6
 rw [if_neg zF] at H
 obtain rfl:=Option.some.inj H
 go_enter Try.func129,Try.ntmps129
 go_wp2_with (first|((with_reducible refine zG Try.func68 9 #[.int .i64 a0,.int .i64 0,.int .i64 a1] ?_);(with_reducible refine (spec_l1In.calls a0 0 a1 true _ A4.1).mono ?_);rintro e w' ⟨rfl,⟨nd,rfl⟩⟩;refine ⟨_,rfl,?_⟩))
 go_ret
 exact ⟨zJJ,zDD⟩

end Go.Proofs.Ytpcgecacaemalaa.PFnStops
