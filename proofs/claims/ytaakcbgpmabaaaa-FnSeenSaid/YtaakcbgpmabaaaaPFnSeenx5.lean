-- made by wip/tools/myprint.py out of the seat's translation
import Derived.Test.YtaakcbgpmabaaaaPFnSeenx0
import Derived.Test.YtaakcbgpmabaaaaPFnSeenx2
import Derived.Test.YtaakcbgpmabaaaaPFnSeenx3
import Derived.Test.YtaakcbgpmabaaaaPFnSeenx4
namespace Go.Proofs.Ytaakcbgpmabaaaa.PFnSeen
open Go.RowKit Go.Proofs.YtaakcbgpmabaaaaW.PrintWords Go.Proofs.YtaakcbgpmabaaaaW.PrintLast Go.Proofs.YtaakcbgpmabaaaaW.PrintMore
attribute [local go_sem] max2_int min2_int max_two min_two max_three min_three max_four min_four -- for this text's walks alone
set_option linter.unusedVariables false
set_option linter.unusedSimpArgs false
set_option maxHeartbeats 8000000
set_option maxRecDepth 100000

/-! ### spec_HartOk: function 74 -/
def spec_HartOk.f (k:Nat) (l0_0:List Int) (a0_1:Int) (a0_2:Int):Option (Bool):=(spec_l1Words.f k l0_0 4).bind fun t266=>(if t266=true then ((spec_l1In.f a0_1 0 23).bind fun t267=>(if t267=true then ((spec_l1In.f a0_2 0 2).bind fun t268=>(some t268)) else (some false))) else (some false))
theorem spec_HartOk.mono: ∀a0 a1 a2 k,LeO (spec_HartOk.f k a0 a1 a2) (spec_HartOk.f (k+1) a0 a1 a2):=by
 intro a0 a1 a2 k
 unfold spec_HartOk.f
 have mo0:=@spec_l1Words.mono
 exact zL
theorem spec_HartOk.calls (k:Nat) (A0_0:Option Addr) (c0_0:Nat) (l0_0:List Int) (a0_1:Int) (a0_2:Int) (r:Bool) (w:World) (hr0_0:Kd.C (Kd.int .i64) w A0_0 l0_0.length l0_0) (hc0_0:l0_0.length≤c0_0) (h:spec_HartOk.f k l0_0 a0_1 a0_2=some r):
  Calls Try.prog 74 #[.agg #[.slice A0_0 l0_0.length c0_0,.int .i64 a0_1,.int .i64 a0_2]] w fun e w'=>e= .returned (.bool r)∧Below w.heap.size w w':=by
 have hu72:=Try.underlying72
 have HR0_0:=zM hr0_0
 have HC0_0:=zM hc0_0
 clear hr0_0 hc0_0
 have HB:=zM (Below.refl w.heap.size w)
 unfold spec_HartOk.f at h
 have H:=h
 clear h
 replace H:=zO H
 obtain ⟨t266,A2,H⟩:=H
 by_cases c3:t266=true
 rotate_left
 ·replace c3:=Bool.eq_false_iff.mpr c3
  subst c3
  rw [if_neg zF] at H
  obtain rfl:=Option.some.inj H
  go_enter Try.func74,Try.ntmps74
  go_wp2_with (first|((with_reducible refine zBx 1 72 #[.slice A0_0 l0_0.length c0_0,.int .i64 a0_1,.int .i64 a0_2] ?_);intro gb265 hg w11 hbox hb;have BK265:=zM hbox;have GW265:=zM (zW hg (below_size zB3));have GE265:=zM (zW hg (below_size zB3));replace HB:=zM (below_step zB3 hb);clear hb hbox hg;have hcz12:=zc_3 (w:=w11) BK265.1)|((with_reducible refine zG Try.func48 5 #[.slice A0_0 l0_0.length c0_0,.int .i64 4] ?_);(with_reducible refine (spec_l1Words.calls k _ _ l0_0 4 false _ ?side1 ?side2 A2.1).mono ?_);(case side1=>exact zC (Kd.C_below HR0_0.1 HB.1));(case side2=>exact HC0_0.1);rintro e w' ⟨rfl,⟨nd,rfl⟩⟩;refine ⟨_,rfl,?_⟩))
  go_ret
  exact ⟨zE,zB3⟩
 subst c3
 rw [if_pos rfl] at H
 replace H:=zO H
 obtain ⟨t267,A4,H⟩:=H
 by_cases c5:t267=true
 rotate_left
 ·replace c5:=Bool.eq_false_iff.mpr c5
  subst c5
  rw [if_neg zF] at H
  obtain rfl:=Option.some.inj H
  go_enter Try.func74,Try.ntmps74
  go_wp2_with (first|((with_reducible refine zBx 1 72 #[.slice A0_0 l0_0.length c0_0,.int .i64 a0_1,.int .i64 a0_2] ?_);intro gb265 hg w9 hbox hb;have BK265:=zM hbox;have GW265:=zM (zW hg (below_size zB3));have GE265:=zM (zW hg (below_size zB3));replace HB:=zM (below_step zB3 hb);clear hb hbox hg;have hcz10:=zc_3 (w:=w9) BK265.1)|((with_reducible refine zG Try.func48 5 #[.slice A0_0 l0_0.length c0_0,.int .i64 4] ?_);(with_reducible refine (spec_l1Words.calls k _ _ l0_0 4 true _ ?side1 ?side2 A2.1).mono ?_);(case side1=>exact zC (Kd.C_below HR0_0.1 HB.1));(case side2=>exact HC0_0.1);rintro e w' ⟨rfl,⟨nd,rfl⟩⟩;refine ⟨_,rfl,?_⟩)|(go_at_call 46;(with_reducible refine (spec_l1In.calls a0_1 0 23 false _ A4.1).mono ?_);rintro e w' ⟨rfl,⟨nd,rfl⟩⟩))
  go_ret
  exact ⟨zE,zB3⟩
 subst c5
 rw [if_pos rfl] at H
 replace H:=zO H
 obtain ⟨t268,A6,H⟩:=H
 obtain rfl:=Option.some.inj H
 go_enter Try.func74,Try.ntmps74
 go_wp2_with (first|((with_reducible refine zBx 1 72 #[.slice A0_0 l0_0.length c0_0,.int .i64 a0_1,.int .i64 a0_2] ?_);intro gb265 hg w7 hbox hb;have BK265:=zM hbox;have GW265:=zM (zW hg (below_size zB3));have GE265:=zM (zW hg (below_size zB3));replace HB:=zM (below_step zB3 hb);clear hb hbox hg;have hcz8:=zc_3 (w:=w7) BK265.1)|((with_reducible refine zG Try.func48 5 #[.slice A0_0 l0_0.length c0_0,.int .i64 4] ?_);(with_reducible refine (spec_l1Words.calls k _ _ l0_0 4 true _ ?side1 ?side2 A2.1).mono ?_);(case side1=>exact zC (Kd.C_below HR0_0.1 HB.1));(case side2=>exact HC0_0.1);rintro e w' ⟨rfl,⟨nd,rfl⟩⟩;refine ⟨_,rfl,?_⟩)|(go_at_call 46;(with_reducible refine (spec_l1In.calls a0_1 0 23 true _ A4.1).mono ?_);rintro e w' ⟨rfl,⟨nd,rfl⟩⟩)|(go_at_call 46;(with_reducible refine (spec_l1In.calls a0_2 0 2 t268 _ A6.1).mono ?_);rintro e w' ⟨rfl,⟨nd,rfl⟩⟩))
 go_ret
 exact ⟨zE,zB3⟩

/-! ### spec_l18DrawRun: function 31 -/
mutual
def spec_l18DrawRun.l0:Nat→Int→List Int→List (S72)→Int→List Int→Int→Int→Option (List Int×(List (S72))×List Int×Int×Int)
 |0,_,_,_,_,_,_,_=>none
 |k+1,x1,x7,x8,x9,x1000,x1001,x1002=>(spec_l1Below.f x1000 x1001 x1002 3).bind fun bt277=>(if x9<(wrap64 (1+bt277.1)) then ((spec_l9DrawHart.f k x1000 bt277.2.1 bt277.2.2).bind fun bt280=>((spec_HartOk.f k bt280.1 bt280.2.1 bt280.2.2.1).bind fun t288=>(if t288=true then (if x8.length<3518437208883 then (spec_l18DrawRun.l0 k x1 x7 (x8++[(⟨bt280.1,bt280.2.1,bt280.2.2.1⟩:S72)]) (wrap64 (x9+1)) x1000 bt280.2.2.2.1 bt280.2.2.2.2) else (none)) else ((spec_l1Below.f x1000 bt280.2.2.2.1 bt280.2.2.2.2 20).bind fun bt292=>((spec_HartNew.f bt292.1).bind fun bt295=>(if x8.length<3518437208883 then (spec_l18DrawRun.l0 k x1 x7 (x8++[(⟨bt295.1,bt295.2.1,bt295.2.2⟩:S72)]) (wrap64 (x9+1)) x1000 bt292.2.1 bt292.2.2) else (none))))))) else (spec_l18DrawRun.l1 k x1 x7 x8 (([]:List Int)) 0 x1000 bt277.2.1 bt277.2.2))
def spec_l18DrawRun.l1:Nat→Int→List Int→List (S72)→List Int→Int→List Int→Int→Int→Option (List Int×(List (S72))×List Int×Int×Int)
 |0,_,_,_,_,_,_,_,_=>none
 |k+1,x1,x7,x8,x11,x12,x1000,x1001,x1002=>(spec_l1Below.f x1000 x1001 x1002 x1).bind fun bt306=>(if x12<bt306.1 then ((spec_l1Below.f x1000 bt306.2.1 bt306.2.2 (x8.length:Int)).bind fun bt309=>(if x11.length<17592186044416 then (spec_l18DrawRun.l1 k x1 x7 x8 (x11++[bt309.1]) (wrap64 (x12+1)) x1000 bt309.2.1 bt309.2.2) else (none))) else (some (x7,x8,x11,bt306.2.1,bt306.2.2)))
end
def spec_l18DrawRun.f (k:Nat) (s0_0:List Int) (s0_1:Int) (s0_2:Int) (a1:Int):Option (List Int×(List (S72))×List Int×Int×Int):=(spec_l9DrawMem.f k s0_0 s0_1 s0_2).bind fun bt269=>(spec_l18DrawRun.l0 k a1 bt269.1 (([]:List (S72))) 0 s0_0 bt269.2.1 bt269.2.2)
theorem spec_l18DrawRun.mono_l: ∀k,(∀y0 y1 y2 y3 y4 y5 y6,LeO (spec_l18DrawRun.l0 k y0 y1 y2 y3 y4 y5 y6) (spec_l18DrawRun.l0 (k+1) y0 y1 y2 y3 y4 y5 y6))∧(∀y0 y1 y2 y3 y4 y5 y6 y7,LeO (spec_l18DrawRun.l1 k y0 y1 y2 y3 y4 y5 y6 y7) (spec_l18DrawRun.l1 (k+1) y0 y1 y2 y3 y4 y5 y6 y7))
 |0=>⟨fun _ _ _ _ _ _ _ r h=>by simp [spec_l18DrawRun.l0] at h,fun _ _ _ _ _ _ _ _ r h=>by simp [spec_l18DrawRun.l1] at h⟩
 |k+1=>by
  obtain ⟨ih0,ih1⟩:=spec_l18DrawRun.mono_l k
  refine ⟨?_,?_⟩
  ·intros
   unfold spec_l18DrawRun.l0
   have mo0:=@spec_HartOk.mono
   have mo1:=@spec_l9DrawHart.mono
   have mo2:=@spec_l9DrawMem.mono
   exact zL
  ·intros
   unfold spec_l18DrawRun.l1
   have mo0:=@spec_HartOk.mono
   have mo1:=@spec_l9DrawHart.mono
   have mo2:=@spec_l9DrawMem.mono
   exact zL
theorem spec_l18DrawRun.mono: ∀a0 a1 a2 a3 k,LeO (spec_l18DrawRun.f k a0 a1 a2 a3) (spec_l18DrawRun.f (k+1) a0 a1 a2 a3):=by
 intro a0 a1 a2 a3 k
 obtain ⟨ih0,ih1⟩:=spec_l18DrawRun.mono_l k
 unfold spec_l18DrawRun.f
 have mo0:=@spec_HartOk.mono
 have mo1:=@spec_l9DrawHart.mono
 have mo2:=@spec_l9DrawMem.mono
 exact zL
theorem l1Words_len {n:Int} : ∀(k:Nat) (r:List Int) (x:Int),spec_l1Words.l0 k r n x=some true→(r.length:Int)=n
 |0,r,x,h=>by simp [spec_l1Words.l0] at h
 |k+1,r,x,h=>by
  unfold spec_l1Words.l0 at h
  by_cases c:x<(r.length:Int)
  rotate_left
  ·rw [if_neg c] at h;simpa using h
  rw [if_pos c] at h
  by_cases c2:0≤x
  rotate_left
  ·rw [if_neg c2] at h;cases h
  rw [if_pos c2] at h
  obtain ⟨b,hb,h⟩:=Option.bind_eq_some_iff.1 h
  cases b with
  |true=>exact l1Words_len k r _ (by simpa using h)
  |false=>simp at h
theorem hartOk_len {k:Nat} {r:List Int} {p s:Int} (h:spec_HartOk.f k r p s=some true):r.length=4:=by
 unfold spec_HartOk.f at h
 obtain ⟨b,hb,h⟩:=Option.bind_eq_some_iff.1 h
 cases b with
 |false=>simp at h
 |true=>
  have:=l1Words_len k r 0 (show spec_l1Words.l0 k r 4 0=some true from hb)
  omega
theorem spec_l18DrawRun.calls (k:Nat) (g:Nat) (s0_0:List Int) (s0_1:Int) (s0_2:Int) (a1:Int) (r1:List Int) (r2:List (S72)) (r3:List Int) (r4:Int) (r5:Int) (w0 w:World) (hI:IsS104 w0 w g s0_0 s0_1 s0_2) (hB:Below w0.heap.size w0 w) (h:spec_l18DrawRun.f k s0_0 s0_1 s0_2 a1=some (r1,r2,r3,r4,r5)):
  Calls Try.prog 31 #[.pointer (some ⟨g,0,none⟩),.int .i64 a1] w fun e w'=>∃v0_ v1_ v2_:Value,e= .returned (.tuple #[v0_,v1_,v2_])∧Kd.R (Kd.int .i64) 3 w' w.heap.size (fun k_=>some k_≠(v2_:Value).ownBlock) v0_ r1∧Kd.S k72 72 w' w.heap.size (fun k_=>some k_≠(v0_:Value).ownBlock∧some k_≠(v2_:Value).ownBlock) v1_ r2∧Kd.R (Kd.int .i64) 3 w' w.heap.size (fun k_=>some k_≠(v0_:Value).ownBlock) v2_ r3∧IsS104 w0 w' g s0_0 r4 r5∧Below w0.heap.size w0 w'∧KeepBut w w' g none:=by
 have hu72:=Try.underlying72
 have HI0:=zM hI
 have HK:=zM (KeepBut.refl w g none)
 have HL:=zM hB.size
 clear hI
 have HW0:=zM hB.size
 have HB:=zM hB
 clear hB
 unfold spec_l18DrawRun.f at h
 have H:=h
 clear h
 replace H:=zO H
 obtain ⟨⟨t269,t272,t273⟩,A3,H⟩:=H
 try dsimp only at H
 generalize hy274:((([]:List (S72))):List (S72))=y274 at H
 have Ny274:=zM hy274.symm
 clear hy274
 have H':=zM H
 clear H
 go_enter Try.func31,Try.ntmps31
 go_wp2_with (first|((with_reducible refine zG Try.func72 14 #[.pointer (some ⟨g,0,none⟩)] ?_);(with_reducible refine (spec_l9DrawMem.calls k g s0_0 s0_1 s0_2 t269 t272 t273 w0 _ ?side1 ?side2 A3.1).mono ?_);(case side1=>exact zB0);(case side2=>exact zB1);rintro e w4 ⟨v270,rfl,ho0,hi,hb,hk⟩;refine ⟨_,rfl,?_⟩;have HO271:=zM (Kd.R_lower ho0 (keep_size (w:=w) (g:=g) (row:=none) zB2));replace HK:=zM (KeepBut.trans zB2 hk (.inl rfl));replace HB:=zM hb;replace HI0:=zM hi;clear hb hk hi ho0)|((with_reducible refine gate_dst (N:=15) rfl ?_);refine Kd.S_lit k72 _ 72 ?hg (N:=15) ?hd (xs:=([]:List (S72))) (inner:=[]) (ok:=fun _=>True) (okp:=fun _=>True) ?hr ?hp (fun _ hk=>hk) trivial (Below.refl _ _) (Nat.le_refl _) (by simp) ?_;(case hd=>rfl);(case hg=>rfl);(case hr=>exact zHH);(case hp=>exact (Reps.none _ _));intro v275 w5 ho6 hb hg_ hnew_;clear hg_ hnew_;(first|rw [←Ny274.1] at ho6|(simp only [Int.reduceToNat] at ho6;rw [←Ny274.1] at ho6));have HO276:=zM (Kd.S_lower (Kd.S_new' ho6 (Kd.R_lt (zR HO271.1))) (keep_size (w:=w) (g:=g) (row:=none) zB2));replace HO271:=zM (Kd.R_below (zR HO271.1) hb);replace HK:=zM (KeepBut.trans zB2 (KeepBut.of_below hb g none) (.inl rfl));replace HB:=zM (below_step zB1 hb);replace HI0:=zM (IsS104.below zB0 hb);clear hb ho6))
 go_loopg [8,9] k (fun kq v8 v9 w'=>∃(x8_1:List (S72)) (x9_1:Int) (x1001_1:Int) (x1002_1:Int),v9= .int .i64 x9_1∧Aside0 (spec_l18DrawRun.l0 kq a1 t269 x8_1 x9_1 s0_0 x1001_1 x1002_1=some (r1,r2,r3,r4,r5))∧Aside0 (kq≤k)∧Aside0 (Kd.R (Kd.int .i64) 3 w' w.heap.size (fun _=>True) v270 t269)∧Aside0 (Kd.S k72 72 w' w.heap.size (fun k_=>some k_≠(v270:Value).ownBlock) v8 x8_1)∧Aside0 (IsS104 w0 w' g s0_0 x1001_1 x1002_1)∧Aside0 (KeepBut w w' g none)∧Aside0 (Below w0.heap.size w0 w'))
 case atStart=>exact ⟨(y274),(0),(t272),(t273),zJJ,H',⟨Nat.le_refl _⟩,⟨zR HO271.1⟩,⟨by refine zrS ?_;exact Kd.S_mono HO276.1 (fun _ hk=>hk.2)⟩,⟨zB0⟩,⟨zB2⟩,⟨zB1⟩⟩
 case round=>
  clear H'
  obtain ⟨x8_1,x9_1,x1001_1,x1002_1,rfl,HA,HK1,HO_7,HO_8,HI0,HK,HB⟩:=hrel
  cases gk with
  |zero=>exact absurd HA.1 (by simp [spec_l18DrawRun.l0])
  |succ k1=>
   have H:=HA.1
   clear HA
   simp only [spec_l18DrawRun.l0] at H
   replace H:=zO H
   obtain ⟨⟨t277,t278,t279⟩,A7,H⟩:=H
   try dsimp only at H
   by_cases c8:x9_1<(wrap64 (1+t277))
   rotate_left
   ·rw [if_neg c8] at H
    have c8b0:=decide_eq_false c8
    clear c8
    generalize hy303:((([]:List Int)):List Int)=y303 at H
    have Ny303:=zM hy303.symm
    clear hy303
    have H':=zM H
    clear H
    go_wp2_with (first|((with_reducible refine zG Try.func43 18 #[.pointer (some ⟨g,0,none⟩),.int .i64 3] ?_);(with_reducible refine (spec_l1Below.calls g s0_0 x1001_1 x1002_1 3 t277 t278 t279 w0 _ ?side1 ?side2 A7.1).mono ?_);(case side1=>exact zB0);(case side2=>exact zB1);rintro e w39 ⟨rfl,hi,hb,hk⟩;refine ⟨_,rfl,?_⟩;replace HO_7:=zM (Kd.R_mono (Kd.R_keep (IsS104.apart (show IsS104 w0 _ g s0_0 x1001_1 x1002_1 from zB0) (zR HO_7.1) (by decide)) hk (fun _ h=>h.2)) (fun _ h=>h.1));replace HO_8:=zM (Kd.S_mono (Kd.S_keep (IsS104.apartS (show IsS104 w0 _ g s0_0 x1001_1 x1002_1 from zB0) (zS HO_8.1) (by decide)) hk (fun _ h=>h.2)) (fun _ h=>h.1));replace HK:=zM (KeepBut.trans zB2 hk (.inl rfl));replace HB:=zM hb;replace HI0:=zM hi;clear hb hk hi)|((with_reducible refine gate_dst (N:=35) rfl ?_);refine Kd.R_lit (Kd.int .i64) _ 3 ?hg (N:=35) ?hd (xs:=([]:List Int)) (inner:=[]) (ok:=fun _=>True) (okp:=fun _=>True) ?hr ?hp (fun _ hk=>hk) trivial (Below.refl _ _) (Nat.le_refl _) (by simp) ?_;(case hd=>rfl);(case hg=>rfl);(case hr=>exact zHH);(case hp=>exact (Reps.none _ _));intro v304 w40 ho41 hb hg_ hnew_;clear hg_ hnew_;(first|rw [←Ny303.1] at ho41|(simp only [Int.reduceToNat] at ho41;rw [←Ny303.1] at ho41));replace HO_8:=zM (Kd.S_elder' (zS HO_8.1) (Kd.R_base ho41) hb);have HO305:=zM (Kd.R_lower (Kd.R_new' ho41 (Kd.R_lt (zR HO_7.1))) (keep_size (w:=w) (g:=g) (row:=none) zB2));replace HO_7:=zM (Kd.R_elder' (zR HO_7.1) (Kd.R_base ho41) hb);replace HK:=zM (KeepBut.trans zB2 (KeepBut.of_below hb g none) (.inl rfl));replace HB:=zM (below_step zB1 hb);replace HI0:=zM (IsS104.below zB0 hb);clear hb ho41))
    go_loopg [11,12] k1 (fun kq v11 v12 w'=>∃(x11_2:List Int) (x12_2:Int) (x1001_2:Int) (x1002_2:Int),v12= .int .i64 x12_2∧Aside0 (spec_l18DrawRun.l1 kq a1 t269 x8_1 x11_2 x12_2 s0_0 x1001_2 x1002_2=some (r1,r2,r3,r4,r5))∧Aside0 (kq≤k1)∧Aside0 (Kd.R (Kd.int .i64) 3 w' w.heap.size (fun k_=>some k_≠(v11:Value).ownBlock) v270 t269)∧Aside0 (Kd.S k72 72 w' w.heap.size (fun k_=>some k_≠(v270:Value).ownBlock∧some k_≠(v11:Value).ownBlock) u8 x8_1)∧Aside0 (Kd.R (Kd.int .i64) 3 w' w.heap.size (fun k_=>some k_≠(v270:Value).ownBlock) v11 x11_2)∧Aside0 (IsS104 w0 w' g s0_0 x1001_2 x1002_2)∧Aside0 (KeepBut w w' g none)∧Aside0 (Below w0.heap.size w0 w'))
    case atStart=>exact ⟨(y303),(0),(t278),(t279),zJJ,H',⟨Nat.le_refl _⟩,⟨by refine zrR ?_;exact Kd.R_mono HO_7.1 (fun _ hk=>hk.2)⟩,⟨zS HO_8.1⟩,⟨by refine zrR ?_;exact Kd.R_mono HO305.1 (fun _ hk=>hk.2)⟩,⟨zB0⟩,⟨zB2⟩,⟨zB1⟩⟩
    case round=>
     clear H'
     obtain ⟨x11_2,x12_2,x1001_2,x1002_2,rfl,HA,HK2,HO_7,HO_8,HO_11,HI0,HK,HB⟩:=hrel
     cases gk with
     |zero=>exact absurd HA.1 (by simp [spec_l18DrawRun.l1])
     |succ k2=>
      have H:=HA.1
      clear HA
      simp only [spec_l18DrawRun.l1] at H
      replace H:=zO H
      obtain ⟨⟨t306,t307,t308⟩,A42,H⟩:=H
      try dsimp only at H
      by_cases c43:x12_2<t306
      rotate_left
      ·rw [if_neg c43] at H
       have c43b0:=decide_eq_false c43
       clear c43
       simp only [Option.some.injEq,Prod.mk.injEq] at H
       obtain ⟨rfl,rfl,rfl,rfl,rfl⟩:=H
       go_wp2_with (first|((with_reducible refine zG Try.func43 39 #[.pointer (some ⟨g,0,none⟩),.int .i64 a1] ?_);(with_reducible refine (spec_l1Below.calls g s0_0 x1001_2 x1002_2 a1 t306 t307 t308 w0 _ ?side1 ?side2 A42.1).mono ?_);(case side1=>exact zB0);(case side2=>exact zB1);rintro e w50 ⟨rfl,hi,hb,hk⟩;refine ⟨_,rfl,?_⟩;replace HO_7:=zM (Kd.R_mono (Kd.R_keep (IsS104.apart (show IsS104 w0 _ g s0_0 x1001_2 x1002_2 from zB0) (zR HO_7.1) (by decide)) hk (fun _ h=>h.2)) (fun _ h=>h.1));replace HO_8:=zM (Kd.S_mono (Kd.S_keep (IsS104.apartS (show IsS104 w0 _ g s0_0 x1001_2 x1002_2 from zB0) (zS HO_8.1) (by decide)) hk (fun _ h=>h.2)) (fun _ h=>h.1));replace HO_11:=zM (Kd.R_mono (Kd.R_keep (IsS104.apart (show IsS104 w0 _ g s0_0 x1001_2 x1002_2 from zB0) (zR HO_11.1) (by decide)) hk (fun _ h=>h.2)) (fun _ h=>h.1));replace HK:=zM (KeepBut.trans zB2 hk (.inl rfl));replace HB:=zM hb;replace HI0:=zM hi;clear hb hk hi))
       go_ret3
       exact ⟨_,_,_,zE,zR HO_7.1,zS HO_8.1,zR HO_11.1,zB0,zB1,zB2⟩
      rw [if_pos c43] at H
      have c43b0:=decide_eq_true c43
      clear c43
      replace H:=zO H
      obtain ⟨⟨t309,t310,t311⟩,A44,H⟩:=H
      try dsimp only at H
      replace H:=zIn H
      obtain ⟨LMc45,H⟩:=H
      generalize hy312:((x11_2++[t309]):List Int)=y312 at H
      have Ny312:=zM hy312.symm
      clear hy312
      have H':=zM H
      clear H
      go_wp2_with (first|((with_reducible refine zG Try.func43 39 #[.pointer (some ⟨g,0,none⟩),.int .i64 a1] ?_);(with_reducible refine (spec_l1Below.calls g s0_0 x1001_2 x1002_2 a1 t306 t307 t308 w0 _ ?side1 ?side2 A42.1).mono ?_);(case side1=>exact zB0);(case side2=>exact zB1);rintro e w46 ⟨rfl,hi,hb,hk⟩;refine ⟨_,rfl,?_⟩;replace HO_7:=zM (Kd.R_mono (Kd.R_keep (IsS104.apart (show IsS104 w0 _ g s0_0 x1001_2 x1002_2 from zB0) (zR HO_7.1) (by decide)) hk (fun _ h=>h.2)) (fun _ h=>h.1));replace HO_8:=zM (Kd.S_mono (Kd.S_keep (IsS104.apartS (show IsS104 w0 _ g s0_0 x1001_2 x1002_2 from zB0) (zS HO_8.1) (by decide)) hk (fun _ h=>h.2)) (fun _ h=>h.1));replace HO_11:=zM (Kd.R_mono (Kd.R_keep (IsS104.apart (show IsS104 w0 _ g s0_0 x1001_2 x1002_2 from zB0) (zR HO_11.1) (by decide)) hk (fun _ h=>h.2)) (fun _ h=>h.1));replace HK:=zM (KeepBut.trans zB2 hk (.inl rfl));replace HB:=zM hb;replace HI0:=zM hi;clear hb hk hi;obtain ⟨Ao47,co47,eo47⟩:=Kd.S_slice HO_8.1;subst eo47)|((with_reducible refine zG Try.func43 47 #[.pointer (some ⟨g,0,none⟩),.int .i64 (x8_1.length:Int)] ?_);(with_reducible refine (spec_l1Below.calls g s0_0 t307 t308 (x8_1.length:Int) t309 t310 t311 w0 _ ?side1 ?side2 A44.1).mono ?_);(case side1=>exact zB0);(case side2=>exact zB1);rintro e w48 ⟨rfl,hi,hb,hk⟩;refine ⟨_,rfl,?_⟩;replace HO_7:=zM (Kd.R_mono (Kd.R_keep (IsS104.apart (show IsS104 w0 _ g s0_0 t307 t308 from zB0) (zR HO_7.1) (by decide)) hk (fun _ h=>h.2)) (fun _ h=>h.1));replace HO_8:=zM (Kd.S_mono (Kd.S_keep (IsS104.apartS (show IsS104 w0 _ g s0_0 t307 t308 from zB0) (zS HO_8.1) (by decide)) hk (fun _ h=>h.2)) (fun _ h=>h.1));replace HO_11:=zM (Kd.R_mono (Kd.R_keep (IsS104.apart (show IsS104 w0 _ g s0_0 t307 t308 from zB0) (zR HO_11.1) (by decide)) hk (fun _ h=>h.2)) (fun _ h=>h.1));replace HK:=zM (KeepBut.trans zB2 hk (.inl rfl));replace HB:=zM hb;replace HI0:=zM hi;clear hb hk hi)|((with_reducible refine gate_builtin (b:= .append) (xs:=#[.tmp 43,.tmp 48]) rfl ?_);at_builtin;refine Kd.R_append (Kd.int .i64) w.heap.size rfl (.tmp 43) (.tmp 48) 24 3 (.int .i64 0) 8 rfl Try.underlying24 info3 rfl (by decide) (by omega) u11 x11_2 t309 [.int .i64 t309] (fun k_=>some k_≠(v270:Value).ownBlock) (fun _=>False) rfl rfl ?aP (fun _ hk=>hk.elim) ?aF ?aO (Below.refl _ _) ?aS ?aL ?_;(case aP=>exact rfl);(case aF=>exact (fun k_ hk=>Kd.fresh' (Kd.R_lt (zR HO_7.1)) k_ hk));(case aO=>exact (zR HO_11.1));(case aS=>exact (keep_size (w:=w) (g:=g) (row:=none) zB2));(case aL=>have:=LMc45.out;omega);intro v313 w49 ho hb hg hat;rw [←Ny312.1] at ho;replace HO_7:=zM (Kd.R_after (ok:=(fun _=>True)) (by refine zrR ?_;exact Kd.R_mono HO_7.1 (fun _ hk=>⟨trivial,hk⟩)) hg hat);replace HO_8:=zM (Kd.S_after (ok:=(fun k_=>some k_≠(v270:Value).ownBlock)) (zS HO_8.1) hg hat);replace HB:=zM (below_weaken zB1 HL.1 hb);replace HI0:=zM (IsS104.grown (show IsS104 w0 _ g s0_0 t310 t311 from zB0) hg (IsS104.own_ne HI0.1 HO_11.1 (by decide)));replace HK:=zM (KeepBut.trans zB2 (KeepBut.of_grown hg g) (Kd.R_base2 HO_11.1));have HO314:=zM ho;clear HO_11;clear ho hb hg hat))
      go_roundg k2
      case measure=>have:=HK1.1;have:=HK2.1;omega
      case rel=>exact ⟨(y312),(wrap64 (x12_2+1)),(t310),(t311),zJJ,H',⟨by have:=HK1.1;have:=HK2.1;omega⟩,⟨by refine zrR ?_;exact Kd.R_mono HO_7.1 (fun _ hk=>hk.2)⟩,⟨zS HO_8.1⟩,⟨zR HO314.1⟩,⟨zB0⟩,⟨zB2⟩,⟨zB1⟩⟩
   rw [if_pos c8] at H
   have c8b0:=decide_eq_true c8
   clear c8
   replace H:=zO H
   obtain ⟨⟨t280,t283,t284,t285,t286⟩,A9,H⟩:=H
   try dsimp only at H
   replace H:=zO H
   obtain ⟨t288,A10,H⟩:=H
   by_cases c11:t288=true
   ·subst c11
    rw [if_pos rfl] at H
    replace H:=zIn H
    obtain ⟨LMc12,H⟩:=H
    generalize hy289:((x8_1++[(⟨t280,t283,t284⟩:S72)]):List (S72))=y289 at H
    have Ny289:=zM hy289.symm
    clear hy289
    have H':=zM H
    clear H
    go_wp2_with (first|((with_reducible refine zG Try.func43 18 #[.pointer (some ⟨g,0,none⟩),.int .i64 3] ?_);(with_reducible refine (spec_l1Below.calls g s0_0 x1001_1 x1002_1 3 t277 t278 t279 w0 _ ?side1 ?side2 A7.1).mono ?_);(case side1=>exact zB0);(case side2=>exact zB1);rintro e w13 ⟨rfl,hi,hb,hk⟩;refine ⟨_,rfl,?_⟩;replace HO_7:=zM (Kd.R_mono (Kd.R_keep (IsS104.apart (show IsS104 w0 _ g s0_0 x1001_1 x1002_1 from zB0) (zR HO_7.1) (by decide)) hk (fun _ h=>h.2)) (fun _ h=>h.1));replace HO_8:=zM (Kd.S_mono (Kd.S_keep (IsS104.apartS (show IsS104 w0 _ g s0_0 x1001_1 x1002_1 from zB0) (zS HO_8.1) (by decide)) hk (fun _ h=>h.2)) (fun _ h=>h.1));replace HK:=zM (KeepBut.trans zB2 hk (.inl rfl));replace HB:=zM hb;replace HI0:=zM hi;clear hb hk hi)|((with_reducible refine zG Try.func73 24 #[.pointer (some ⟨g,0,none⟩)] ?_);(with_reducible refine (spec_l9DrawHart.calls k1 g s0_0 t278 t279 t280 t283 t284 t285 t286 w0 _ ?side1 ?side2 A9.1).mono ?_);(case side1=>exact zB0);(case side2=>exact zB1);rintro e w14 ⟨v281,rfl,hoq_,hi,hb,hk⟩;have ho0:=hoq_.2 (hartOk_len A10.1);clear hoq_;refine ⟨_,rfl,?_⟩;replace HO_8:=zM (Kd.S_mono (Kd.S_told (Kd.S_oldK (IsS104.apartS (show IsS104 w0 _ g s0_0 t278 t279 from zB0) (zS HO_8.1) (by decide)) hk) (Kd.R_base ho0)) (fun _ h_=>h_.1));have HO282:=zM (Kd.R_lower (Kd.R_new' ho0 (Kd.R_lt (zR HO_7.1))) (keep_size (w:=w) (g:=g) (row:=none) zB2));replace HO_7:=zM (Kd.R_mono (Kd.R_told (Kd.R_oldK (IsS104.apart (show IsS104 w0 _ g s0_0 t278 t279 from zB0) (zR HO_7.1) (by decide)) hk) (Kd.R_base ho0)) (fun _ h_=>h_.1));replace HK:=zM (KeepBut.trans zB2 hk (.inl rfl));replace HB:=zM hb;replace HI0:=zM hi;clear hb hk hi)|((with_reducible refine zBx 10 72 #[.slice none 0 0,.int .i64 0,.int .i64 0] ?_);intro gb287 hg w15 hbox hb;replace HO_7:=zM (Kd.R_below (zR HO_7.1) hb);replace HO_8:=zM (Kd.S_below (Kd.S_elderB (zS HO_8.1) gb287 (Nat.le_of_eq hg.symm)) hb);replace HO282:=zM (Kd.R_below (zR HO282.1) hb);replace HB:=zM (below_step zB1 hb);have BK287:=zM hbox;have GW287:=zM ((by rw [hg];exact (keep_size (w:=w) (g:=g) (row:=none) zB2):w.heap.size≤gb287));have GE287:=zM ((Nat.le_trans HW0.1 (by rw [hg];exact (keep_size (w:=w) (g:=g) (row:=none) zB2):w.heap.size≤gb287):w0.heap.size≤gb287));replace HK:=zM (KeepBut.trans zB2 (KeepBut.of_below hb g none) (.inl rfl));have NB0_287:=zM ((by rw [hg];exact Nat.ne_of_lt (IsS104.lt (show IsS104 w0 _ g s0_0 t285 t286 from zB0)):g≠gb287));have NB287_0:=zM ((by rw [hg];exact Nat.ne_of_gt (IsS104.lt (show IsS104 w0 _ g s0_0 t285 t286 from zB0)):gb287≠g));replace HI0:=zM (IsS104.below zB0 hb);clear hb hbox hg;obtain ⟨Ao16,co16,eo16⟩:=Kd.R_slice HO282.1;subst eo16;have hnb17:=NB287_0.1;have hnc17:=NB0_287.1;have hcz18:=zc_3 (w:=w15) BK287.1)|((with_reducible refine zG Try.func74 26 #[.agg #[.slice Ao16 t280.length co16,.int .i64 t283,.int .i64 t284]] ?_);(with_reducible refine (spec_HartOk.calls k1 _ _ t280 t283 t284 true _ ?side1 ?side2 A10.1).mono ?_);(case side1=>refine (Kd.R_reads' (e:=3) (base:=w.heap.size) (ok:=fun k_=>(True∧some k_≠(v270:Value).ownBlock)) (n:=t280.length) (c:=co16) ?_).2.2;exact (by refine zrR ?_;exact (Kd.R_mono (zfR (zfR (zfR (Kd.R_types HO282.1 BK287.1 (by decide))))) (fun _ h_=>h_.1))));(case side2=>exact (Kd.R_reads' HO282.1).2.1);rintro e w19 ⟨rfl,hb⟩;refine ⟨_,rfl,?_⟩;replace HO_7:=zM (Kd.R_below (by refine zrR ?_;exact (Kd.R_mono (zfR (zfR (zfR (Kd.R_types HO_7.1 BK287.1 (by decide))))) (fun _ h_=>h_.1))) hb);replace HO_8:=zM (Kd.S_below (by refine zrS ?_;exact (Kd.S_mono (zfS (zfS (zfS (Kd.S_mono HO_8.1 (fun k_ hk=>(⟨hk,hk.2⟩:_∧k_≠gb287)))))) (fun _ h_=>h_.1))) hb);replace HO282:=zM (Kd.R_below (by refine zrR ?_;exact (Kd.R_mono (zfR (zfR (zfR (Kd.R_types HO282.1 BK287.1 (by decide))))) (fun _ h_=>h_.1))) hb);replace BK287:=zM (blk_below (g:=gb287) (o:= .cells #[.slice Ao16 t280.length co16,.int .i64 t283,.int .i64 t284] 72 (0,0)) (by exact zp3 (zK BK287.1)) hb);replace HK:=zM (KeepBut.trans zB2 (KeepBut.of_below hb g none) (.inl rfl));replace HB:=zM (below_step zB1 hb);replace HI0:=zM (IsS104.below (show IsS104 w0 (((w15.setCell ⟨gb287,0,none⟩ (.slice Ao16 t280.length co16)).setCell ⟨gb287,1,none⟩ (.int .i64 t283)).setCell ⟨gb287,2,none⟩ (.int .i64 t284)) g s0_0 t285 t286 from zB26) hb);clear hb;have hcz20:=zc_3 (w:=w19) BK287.1)|((with_reducible refine gate_builtin (b:= .append) (xs:=#[.tmp 31,.tmp 33]) rfl ?_);at_builtin;refine Kd.S_append k72 w.heap.size rfl (.tmp 31) (.tmp 33) 25 72 (.agg #[(.slice none 0 0),(.int .i64 0),(.int .i64 0)]) 40 rfl Try.underlying25 info72 rfl (by decide) (by omega) u8 x8_1 (⟨t280,t283,t284⟩:S72) [.slice Ao16 t280.length co16,.int .i64 t283,.int .i64 t284] (fun k_=>some k_≠(v270:Value).ownBlock∧k_≠gb287) (fun k_=>some k_=(.slice Ao16 t280.length co16:Value).ownBlock) rfl rfl ?aP (fun k_ hk_=>((Kd.R_mono (ok':=fun k_=>((fun k_=>some k_≠(v270:Value).ownBlock∧k_≠gb287)) k_∧some k_≠(u8:Value).ownBlock) (Kd.R_types (Kd.R_apart' (HO282.1) (Kd.S_typed HO_8.1) (by decide)) BK287.1 (by decide)) (fun k_ hk=>⟨⟨hk.1.1.2,hk.2⟩,hk.1.2⟩))).1 k_ hk_.symm) ?aF ?aO (Below.refl _ _) ?aS ?aL ?_;(case aP=>exact k72_mkM _ _ _ (⟨t280,t283,t284⟩:S72) (Kd.R_mono (Kd.R_tight rfl (Kd.R_mono (ok':=fun k_=>((fun k_=>some k_≠(v270:Value).ownBlock∧k_≠gb287)) k_∧some k_≠(u8:Value).ownBlock) (Kd.R_types (Kd.R_apart' (HO282.1) (Kd.S_typed HO_8.1) (by decide)) BK287.1 (by decide)) (fun k_ hk=>⟨⟨hk.1.1.2,hk.2⟩,hk.1.2⟩))) (fun _ h_=>h_)));(case aF=>exact (fun k_ hk=>⟨Kd.fresh' (Kd.R_lt (zR HO_7.1)) k_ hk,Kd.freshB (g:=gb287) (o:= .cells #[.slice Ao16 t280.length co16,.int .i64 t283,.int .i64 t284] 72 (0,0)) (zK BK287.1) k_ hk⟩));(case aO=>exact (by refine zrS ?_;exact Kd.S_mono HO_8.1 (fun k_ hk=>⟨⟨hk.1.1,hk.2⟩,fun e_=>hk.1.2 e_⟩)));(case aS=>exact (keep_size (w:=w) (g:=g) (row:=none) zB2));(case aL=>have:=LMc12.out;omega);intro v290 w21 ho hb hg hat;rw [←Ny289.1] at ho;replace HO_7:=zM (Kd.R_over' (zR HO_7.1) (Kd.S_typed (zS HO_8.1)) (by decide) hg);replace BK287:=zM (zg BK287.1 hg (Kd.S_away HO_8.1 (fun _ hk=>hk.2)));replace HB:=zM (below_weaken zB1 HL.1 hb);replace HI0:=zM (IsS104.grown (show IsS104 w0 _ g s0_0 t285 t286 from zB26) hg (IsS104.own_neS HI0.1 HO_8.1 (by decide)));replace HK:=zM (KeepBut.trans zB2 (KeepBut.of_grown hg g) (Kd.S_base2 HO_8.1));have HO291:=zM ho;clear HO_8 HO282;clear ho hb hg hat))
    go_roundg k1
    case measure=>have:=HK1.1;omega
    case rel=>exact ⟨(y289),(wrap64 (x9_1+1)),(t285),(t286),zJJ,H',⟨by have:=HK1.1;omega⟩,⟨by refine zrR ?_;exact Kd.R_mono HO_7.1 (fun _ hk=>trivial)⟩,⟨by refine zrS ?_;exact Kd.S_mono HO291.1 (fun _ hk=>hk.1)⟩,⟨zB26⟩,⟨zB2⟩,⟨zB1⟩⟩
   replace c11:=Bool.eq_false_iff.mpr c11
   subst c11
   rw [if_neg zF] at H
   replace H:=zO H
   obtain ⟨⟨t292,t293,t294⟩,A22,H⟩:=H
   try dsimp only at H
   replace H:=zO H
   obtain ⟨⟨t295,t298,t299⟩,A23,H⟩:=H
   try dsimp only at H
   replace H:=zIn H
   obtain ⟨LMc24,H⟩:=H
   generalize hy300:((x8_1++[(⟨t295,t298,t299⟩:S72)]):List (S72))=y300 at H
   have Ny300:=zM hy300.symm
   clear hy300
   have H':=zM H
   clear H
   go_wp2_with (first|((with_reducible refine zG Try.func43 18 #[.pointer (some ⟨g,0,none⟩),.int .i64 3] ?_);(with_reducible refine (spec_l1Below.calls g s0_0 x1001_1 x1002_1 3 t277 t278 t279 w0 _ ?side1 ?side2 A7.1).mono ?_);(case side1=>exact zB0);(case side2=>exact zB1);rintro e w25 ⟨rfl,hi,hb,hk⟩;refine ⟨_,rfl,?_⟩;replace HO_7:=zM (Kd.R_mono (Kd.R_keep (IsS104.apart (show IsS104 w0 _ g s0_0 x1001_1 x1002_1 from zB0) (zR HO_7.1) (by decide)) hk (fun _ h=>h.2)) (fun _ h=>h.1));replace HO_8:=zM (Kd.S_mono (Kd.S_keep (IsS104.apartS (show IsS104 w0 _ g s0_0 x1001_1 x1002_1 from zB0) (zS HO_8.1) (by decide)) hk (fun _ h=>h.2)) (fun _ h=>h.1));replace HK:=zM (KeepBut.trans zB2 hk (.inl rfl));replace HB:=zM hb;replace HI0:=zM hi;clear hb hk hi)|((with_reducible refine zG Try.func73 24 #[.pointer (some ⟨g,0,none⟩)] ?_);(with_reducible refine (spec_l9DrawHart.calls k1 g s0_0 t278 t279 t280 t283 t284 t285 t286 w0 _ ?side1 ?side2 A9.1).mono ?_);(case side1=>exact zB0);(case side2=>exact zB1);rintro e w26 ⟨v281,rfl,hoq_,hi,hb,hk⟩;have ho0:=hoq_.1;clear hoq_;refine ⟨_,rfl,?_⟩;replace HO_8:=zM (Kd.S_mono (Kd.S_told (Kd.S_oldK (IsS104.apartS (show IsS104 w0 _ g s0_0 t278 t279 from zB0) (zS HO_8.1) (by decide)) hk) (Kd.Q_base ho0)) (fun _ h_=>h_.1));have HO282:=zM (Kd.Q_lower (Kd.Q_new' ho0 (Kd.R_lt (zR HO_7.1))) (keep_size (w:=w) (g:=g) (row:=none) zB2));replace HO_7:=zM (Kd.R_mono (Kd.R_told (Kd.R_oldK (IsS104.apart (show IsS104 w0 _ g s0_0 t278 t279 from zB0) (zR HO_7.1) (by decide)) hk) (Kd.Q_base ho0)) (fun _ h_=>h_.1));replace HK:=zM (KeepBut.trans zB2 hk (.inl rfl));replace HB:=zM hb;replace HI0:=zM hi;clear hb hk hi)|((with_reducible refine zBx 10 72 #[.slice none 0 0,.int .i64 0,.int .i64 0] ?_);intro gb287 hg w27 hbox hb;replace HO_7:=zM (Kd.R_below (zR HO_7.1) hb);replace HO_8:=zM (Kd.S_below (Kd.S_elderB (zS HO_8.1) gb287 (Nat.le_of_eq hg.symm)) hb);replace HO282:=zM (Kd.Q_below (zQ HO282.1) hb);replace HB:=zM (below_step zB1 hb);have BK287:=zM hbox;have GW287:=zM ((by rw [hg];exact (keep_size (w:=w) (g:=g) (row:=none) zB2):w.heap.size≤gb287));have GE287:=zM ((Nat.le_trans HW0.1 (by rw [hg];exact (keep_size (w:=w) (g:=g) (row:=none) zB2):w.heap.size≤gb287):w0.heap.size≤gb287));replace HK:=zM (KeepBut.trans zB2 (KeepBut.of_below hb g none) (.inl rfl));have NB0_287:=zM ((by rw [hg];exact Nat.ne_of_lt (IsS104.lt (show IsS104 w0 _ g s0_0 t285 t286 from zB0)):g≠gb287));have NB287_0:=zM ((by rw [hg];exact Nat.ne_of_gt (IsS104.lt (show IsS104 w0 _ g s0_0 t285 t286 from zB0)):gb287≠g));replace HI0:=zM (IsS104.below zB0 hb);clear hb hbox hg;obtain ⟨Ao28,co28,eo28,_⟩:=Kd.Q_slice HO282.1;subst eo28;have hnb29:=NB287_0.1;have hnc29:=NB0_287.1;have hcz30:=zc_3 (w:=w27) BK287.1)|((with_reducible refine zG Try.func74 26 #[.agg #[.slice Ao28 t280.length co28,.int .i64 t283,.int .i64 t284]] ?_);(with_reducible refine (spec_HartOk.calls k1 _ _ t280 t283 t284 false _ ?side1 ?side2 A10.1).mono ?_);(case side1=>refine (Kd.Q_reads' (e:=3) (base:=w.heap.size) (ok:=fun k_=>(True∧some k_≠(v270:Value).ownBlock)) (n:=t280.length) (c:=co28) ?_).2.2;exact (by refine zrQ ?_;exact (Kd.Q_mono (zfQ (zfQ (zfQ (Kd.Q_types HO282.1 BK287.1 (by decide))))) (fun _ h_=>h_.1))));(case side2=>exact (Kd.Q_reads' HO282.1).2.1);rintro e w31 ⟨rfl,hb⟩;refine ⟨_,rfl,?_⟩;replace HO_7:=zM (Kd.R_below (by refine zrR ?_;exact (Kd.R_mono (zfR (zfR (zfR (Kd.R_types HO_7.1 BK287.1 (by decide))))) (fun _ h_=>h_.1))) hb);replace HO_8:=zM (Kd.S_below (by refine zrS ?_;exact (Kd.S_mono (zfS (zfS (zfS (Kd.S_mono HO_8.1 (fun k_ hk=>(⟨hk,hk.2⟩:_∧k_≠gb287)))))) (fun _ h_=>h_.1))) hb);replace HO282:=zM (Kd.Q_below (by refine zrQ ?_;exact (Kd.Q_mono (zfQ (zfQ (zfQ (Kd.Q_types HO282.1 BK287.1 (by decide))))) (fun _ h_=>h_.1))) hb);replace BK287:=zM (blk_below (g:=gb287) (o:= .cells #[.slice Ao28 t280.length co28,.int .i64 t283,.int .i64 t284] 72 (0,0)) (by exact zp3 (zK BK287.1)) hb);replace HK:=zM (KeepBut.trans zB2 (KeepBut.of_below hb g none) (.inl rfl));replace HB:=zM (below_step zB1 hb);replace HI0:=zM (IsS104.below (show IsS104 w0 (((w27.setCell ⟨gb287,0,none⟩ (.slice Ao28 t280.length co28)).setCell ⟨gb287,1,none⟩ (.int .i64 t283)).setCell ⟨gb287,2,none⟩ (.int .i64 t284)) g s0_0 t285 t286 from zB26) hb);clear hb)|((with_reducible refine zG Try.func43 29 #[.pointer (some ⟨g,0,none⟩),.int .i64 20] ?_);(with_reducible refine (spec_l1Below.calls g s0_0 t285 t286 20 t292 t293 t294 w0 _ ?side1 ?side2 A22.1).mono ?_);(case side1=>exact zB26);(case side2=>exact zB1);rintro e w32 ⟨rfl,hi,hb,hk⟩;refine ⟨_,rfl,?_⟩;replace HO_7:=zM (Kd.R_mono (Kd.R_keep (IsS104.apart (show IsS104 w0 _ g s0_0 t285 t286 from zB26) (zR HO_7.1) (by decide)) hk (fun _ h=>h.2)) (fun _ h=>h.1));replace HO_8:=zM (Kd.S_mono (Kd.S_keep (IsS104.apartS (show IsS104 w0 _ g s0_0 t285 t286 from zB26) (zS HO_8.1) (by decide)) hk (fun _ h=>h.2)) (fun _ h=>h.1));replace HO282:=zM (Kd.Q_mono (Kd.Q_keep (IsS104.apartQ (show IsS104 w0 _ g s0_0 t285 t286 from zB26) (zQ HO282.1) (by decide)) hk (fun _ h=>h.2)) (fun _ h=>h.1));replace BK287:=zM (zh hk BK287.1 NB287_0.1);replace HK:=zM (KeepBut.trans zB2 hk (.inl rfl));replace HB:=zM hb;replace HI0:=zM hi;clear hb hk hi)|((with_reducible refine zG Try.func75 30 #[.int .i64 t292] ?_);(with_reducible refine (spec_HartNew.calls t292 t295 t298 t299 _ A23.1).mono ?_);rintro e w33 ⟨v296,rfl,ho0,hb⟩;refine ⟨_,rfl,?_⟩;replace HO_8:=zM (Kd.S_elder' (zS HO_8.1) (Kd.R_base ho0) hb);have HO297:=zM (Kd.R_lower (Kd.R_new' (Kd.R_new' ho0 (Kd.R_lt (zR HO_7.1))) (Kd.Q_lt (zQ HO282.1))) (keep_size (w:=w) (g:=g) (row:=none) zB2));replace HO_7:=zM (Kd.R_elder' (zR HO_7.1) (Kd.R_base ho0) hb);replace HO282:=zM (Kd.Q_elder' (zQ HO282.1) (Kd.R_base ho0) hb);replace BK287:=zM (zb BK287.1 hb);replace HK:=zM (KeepBut.trans zB2 (KeepBut.of_below hb g none) (.inl rfl));replace HB:=zM (below_step zB1 hb);replace HI0:=zM (IsS104.below zB26 hb);clear hb ho0;obtain ⟨Ao34,co34,eo34⟩:=Kd.R_slice HO297.1;subst eo34;have hcz35:=zc_3 (w:=w33) BK287.1)|((with_reducible refine gate_store (t:=72) (p:=10) rfl ?_);refine store_event (t:=72) (p:=10) (v:=?vo_w36) (w1:=(((w33.setCell ⟨gb287,0,none⟩ (.slice Ao34 t295.length co34)).setCell ⟨gb287,1,none⟩ (.int .i64 t298)).setCell ⟨gb287,2,none⟩ (.int .i64 t299))) ?hg ?ho ?hn ?hr ?_;(case ho=>rfl);(case hg=>rfl);(case hn=>rfl);(case hr=>exact zHH);intro w36 hw;have n0_:Aside0 (Kd.R (Kd.int .i64) 3 w36 w.heap.size (fun k_=>some k_≠(.slice Ao28 t280.length co28:Value).ownBlock∧some k_≠(.slice Ao34 t295.length co34:Value).ownBlock) v270 t269):=⟨(by rw [hw];exact (by refine zrR ?_;exact Kd.R_mono (zfR (zfR (zfR (Kd.R_types HO_7.1 BK287.1 (by decide))))) (fun _ hk=>⟨hk.1.1.2,hk.1.2⟩)))⟩;have n1_:Aside0 (Kd.S k72 72 w36 w.heap.size (fun k_=>some k_≠(v270:Value).ownBlock∧some k_≠(.slice Ao28 t280.length co28:Value).ownBlock∧some k_≠(.slice Ao34 t295.length co34:Value).ownBlock∧k_≠gb287) u8 x8_1):=⟨(by rw [hw];exact (by refine zrS ?_;exact Kd.S_mono (zfS (zfS (zfS (Kd.S_mono HO_8.1 (fun k_ hk=>(⟨hk,hk.1.2⟩:_∧k_≠gb287)))))) (fun _ hk=>⟨hk.1.1.1.1,⟨hk.1.1.1.2,⟨hk.1.2,hk.1.1.2⟩⟩⟩)))⟩;have n2_:Aside0 (Kd.Q (Kd.int .i64) 3 w36 w.heap.size (fun k_=>some k_≠(v270:Value).ownBlock∧some k_≠(.slice Ao34 t295.length co34:Value).ownBlock) (.slice Ao28 t280.length co28) t280):=⟨(by rw [hw];exact (by refine zrQ ?_;exact Kd.Q_mono (zfQ (zfQ (zfQ (Kd.Q_types HO282.1 BK287.1 (by decide))))) (fun _ hk=>⟨hk.1.1.2,hk.1.2⟩)))⟩;have n3_:Aside0 (Kd.R (Kd.int .i64) 3 w36 w.heap.size (fun k_=>some k_≠(v270:Value).ownBlock∧some k_≠(.slice Ao28 t280.length co28:Value).ownBlock) (.slice Ao34 t295.length co34) t295):=⟨(by rw [hw];exact (by refine zrR ?_;exact Kd.R_mono (zfR (zfR (zfR (Kd.R_types HO297.1 BK287.1 (by decide))))) (fun _ hk=>⟨hk.1.1.2,hk.1.2⟩)))⟩;have n4_:Aside0 (w36.heap[gb287]? =some (.cells #[.slice Ao34 t295.length co34,.int .i64 t298,.int .i64 t299] 72 (0,0))):=⟨(by rw [hw];exact (by exact zp3 (zK BK287.1)))⟩;have n5_:Aside0 (IsS104 w0 w36 g s0_0 t293 t294):=⟨(by rw [hw];exact zB26)⟩;have n6_:Aside0 (KeepBut w w36 g none):=⟨(by rw [hw];exact zB2)⟩;have n7_:Aside0 (Below w0.heap.size w0 w36):=⟨(by rw [hw];exact zB1)⟩;clear hw;clear HO_7;clear HO_8;clear HO282;clear HO297;clear BK287;clear HI0;clear HK;clear HB;have HO_7:=n0_;have HO_8:=n1_;have HO282:=n2_;have HO297:=n3_;have BK287:=n4_;have HI0:=n5_;have HK:=n6_;have HB:=n7_;clear n0_ n1_ n2_ n3_ n4_ n5_ n6_ n7_;have hcz37:=zc_3 (w:=w36) BK287.1)|((with_reducible refine gate_builtin (b:= .append) (xs:=#[.tmp 31,.tmp 33]) rfl ?_);at_builtin;refine Kd.S_append k72 w.heap.size rfl (.tmp 31) (.tmp 33) 25 72 (.agg #[(.slice none 0 0),(.int .i64 0),(.int .i64 0)]) 40 rfl Try.underlying25 info72 rfl (by decide) (by omega) u8 x8_1 (⟨t295,t298,t299⟩:S72) [.slice Ao34 t295.length co34,.int .i64 t298,.int .i64 t299] (fun k_=>some k_≠(v270:Value).ownBlock∧some k_≠(.slice Ao28 t280.length co28:Value).ownBlock∧k_≠gb287) (fun k_=>some k_=(.slice Ao34 t295.length co34:Value).ownBlock) rfl rfl ?aP (fun k_ hk_=>((Kd.R_mono (ok':=fun k_=>((fun k_=>some k_≠(v270:Value).ownBlock∧some k_≠(.slice Ao28 t280.length co28:Value).ownBlock∧k_≠gb287)) k_∧some k_≠(u8:Value).ownBlock) (Kd.R_types (Kd.R_apart' (HO297.1) (Kd.S_typed HO_8.1) (by decide)) BK287.1 (by decide)) (fun k_ hk=>⟨⟨hk.1.1.1,⟨hk.1.1.2,hk.2⟩⟩,hk.1.2⟩))).1 k_ hk_.symm) ?aF ?aO (Below.refl _ _) ?aS ?aL ?_;(case aP=>exact k72_mkM _ _ _ (⟨t295,t298,t299⟩:S72) (Kd.R_mono (Kd.R_tight rfl (Kd.R_mono (ok':=fun k_=>((fun k_=>some k_≠(v270:Value).ownBlock∧some k_≠(.slice Ao28 t280.length co28:Value).ownBlock∧k_≠gb287)) k_∧some k_≠(u8:Value).ownBlock) (Kd.R_types (Kd.R_apart' (HO297.1) (Kd.S_typed HO_8.1) (by decide)) BK287.1 (by decide)) (fun k_ hk=>⟨⟨hk.1.1.1,⟨hk.1.1.2,hk.2⟩⟩,hk.1.2⟩))) (fun _ h_=>h_)));(case aF=>exact (fun k_ hk=>⟨Kd.fresh' (Kd.R_lt (zR HO_7.1)) k_ hk,Kd.fresh' (Kd.Q_lt (zQ HO282.1)) k_ hk,Kd.freshB (g:=gb287) (o:= .cells #[.slice Ao34 t295.length co34,.int .i64 t298,.int .i64 t299] 72 (0,0)) (zK BK287.1) k_ hk⟩));(case aO=>exact (by refine zrS ?_;exact Kd.S_mono HO_8.1 (fun k_ hk=>⟨⟨hk.1,⟨hk.2.1,hk.2.2.2⟩⟩,fun e_=>hk.2.2.1 e_⟩)));(case aS=>exact (keep_size (w:=w) (g:=g) (row:=none) zB2));(case aL=>have:=LMc24.out;omega);intro v301 w38 ho hb hg hat;rw [←Ny300.1] at ho;replace HO_7:=zM (Kd.R_over' (zR HO_7.1) (Kd.S_typed (zS HO_8.1)) (by decide) hg);replace HO282:=zM (Kd.Q_over' (zQ HO282.1) (Kd.S_typed (zS HO_8.1)) (by decide) hg);replace BK287:=zM (zg BK287.1 hg (Kd.S_away HO_8.1 (fun _ hk=>hk.2.2.2)));replace HB:=zM (below_weaken zB1 HL.1 hb);replace HI0:=zM (IsS104.grown (show IsS104 w0 _ g s0_0 t293 t294 from zB26) hg (IsS104.own_neS HI0.1 HO_8.1 (by decide)));replace HK:=zM (KeepBut.trans zB2 (KeepBut.of_grown hg g) (Kd.S_base2 HO_8.1));have HO302:=zM ho;clear HO_8 HO297;clear ho hb hg hat))
   go_roundg k1
   case measure=>have:=HK1.1;omega
   case rel=>exact ⟨(y300),(wrap64 (x9_1+1)),(t293),(t294),zJJ,H',⟨by have:=HK1.1;omega⟩,⟨by refine zrR ?_;exact Kd.R_mono HO_7.1 (fun _ hk=>trivial)⟩,⟨by refine zrS ?_;exact Kd.S_mono HO302.1 (fun _ hk=>hk.1)⟩,⟨zB26⟩,⟨zB2⟩,⟨zB1⟩⟩

/-! ### spec_l1New: function 32 -/
def spec_l1New.l0:Nat→List Int→Int→Int→Option (List Int×Int×Int)
 |0,_,_,_=>none
 |k+1,x0,x3,x4=>if x4<(x0.length:Int) then (if x4<4000 then (if 0≤x4 then (spec_l1New.l0 k x0 (Go.bits .and .i64 (wrap64 ((wrap64 ((wrap64 (x3*131))+(wrap64 (rd x0 x4))))+7)) 1073741823) (wrap64 (x4+1))) else (none)) else (some (x0,0,x3))) else (some (x0,0,x3))
def spec_l1New.f (k:Nat) (l0:List Int):Option (List Int×Int×Int):=spec_l1New.l0 k l0 (wrap64 (20404+(l0.length:Int))) 0
theorem spec_l1New.mono_l: ∀k,(∀y0 y1 y2,LeO (spec_l1New.l0 k y0 y1 y2) (spec_l1New.l0 (k+1) y0 y1 y2))
 |0=>fun _ _ _ r h=>by simp [spec_l1New.l0] at h
 |k+1=>by
  have ih0:=spec_l1New.mono_l k
  ·intros
   unfold spec_l1New.l0
   exact zL
theorem spec_l1New.mono: ∀a0 k,LeO (spec_l1New.f k a0) (spec_l1New.f (k+1) a0):=by
 intro a0 k
 have ih0:=spec_l1New.mono_l k
 unfold spec_l1New.f
 exact zL
theorem spec_l1New.calls (k:Nat) (A0:Option Addr) (c0:Nat) (l0:List Int) (r1:List Int) (r2:Int) (r3:Int) (w0 w:World) (hB:Below w0.heap.size w0 w) (hr0:Kd.C (Kd.int .u8) w0 A0 l0.length l0) (hc0:l0.length≤c0) (h:spec_l1New.f k l0=some (r1,r2,r3)):
  Calls Try.prog 32 #[.slice A0 l0.length c0] w fun e w'=>∃g_:Nat,e= .returned (.pointer (some ⟨g_,0,none⟩))∧IsS104 w0 w' g_ r1 r2 r3∧Below w0.heap.size w0 w'∧Below w.heap.size w w':=by
 have hu104:=Try.underlying104
 have HR0:=zM hr0
 have HC0:=zM hc0
 clear hr0 hc0
 have HBW:=zM (Below.refl w.heap.size w)
 have HW0:=zM hB.size
 have HB:=zM hB
 clear hB
 unfold spec_l1New.f at h
 have H:=h
 clear h
 have H':=zM H
 clear H
 go_enter Try.func32,Try.ntmps32
 go_wp2
 go_loopg [3,4] k (fun kq v3 v4 w'=>∃(x3_1:Int) (x4_1:Int),v3= .int .i64 x3_1∧v4= .int .i64 x4_1∧Aside0 (spec_l1New.l0 kq l0 x3_1 x4_1=some (r1,r2,r3))∧Aside0 (kq≤k)∧Aside0 (Below w0.heap.size w0 w')∧Aside0 (Below w.heap.size w w'))
 case atStart=>exact ⟨(wrap64 (20404+(l0.length:Int))),(0),zJJ,zJJ,H',⟨Nat.le_refl _⟩,⟨zB3⟩,⟨zB29⟩⟩
 case round=>
  clear H'
  obtain ⟨x3_1,x4_1,rfl,rfl,HA,HK1,HB,HBW⟩:=hrel
  cases gk with
  |zero=>exact absurd HA.1 (by simp [spec_l1New.l0])
  |succ k1=>
   have H:=HA.1
   clear HA
   simp only [spec_l1New.l0] at H
   by_cases c2:x4_1<(l0.length:Int)
   rotate_left
   ·rw [if_neg c2] at H
    have c2b0:=decide_eq_false c2
    clear c2
    simp only [Option.some.injEq,Prod.mk.injEq] at H
    obtain ⟨rfl,rfl,rfl⟩:=H
    go_wp2_with (first|((with_reducible refine zBx 31 104 #[.slice A0 l0.length c0,.int .i64 0,.int .i64 x3_1] ?_);intro gb317 hg w6 hbox hb;replace HB:=zM (below_step zB3 hb);have BK317:=zM hbox;have GW317:=zM (zW hg (below_size zB29));have GE317:=zM ((Nat.le_trans HW0.1 (zW hg (below_size zB29)):w0.heap.size≤gb317));replace HBW:=zM (below_step HBW.out hb);clear hb hbox hg))
    go_ret
    exact ⟨_,rfl,(show IsS104 w0 _ gb317 l0 0 x3_1 from ⟨_,_,zK BK317.1,GE317.1,HR0.1⟩),zB3,zB29⟩
   rw [if_pos c2] at H
   have c2b0:=decide_eq_true c2
   clear c2
   by_cases c3:x4_1<4000
   ·rw [if_pos c3] at H
    have c3b0:=decide_eq_true c3
    clear c3
    replace H:=zIt H
    obtain ⟨c4b0,H⟩:=H
    have H':=zM H
    clear H
    obtain ⟨p315,q315,ad315,e315,hx315_0⟩:=zRd (Kd.at_int HR0.1 x4_1)
    cases e315
    replace hx315_0:=pw_cell_below HB.1 hx315_0
    go_wp2
    go_roundg k1
    case measure=>have:=HK1.1;omega
    case rel=>exact ⟨(Go.bits .and .i64 (wrap64 ((wrap64 ((wrap64 (x3_1*131))+(wrap64 (rd l0 x4_1))))+7)) 1073741823),(wrap64 (x4_1+1)),zJJ,zJJ,H',⟨by have:=HK1.1;omega⟩,⟨zB3⟩,⟨zB29⟩⟩
   rw [if_neg c3] at H
   have c3b0:=decide_eq_false c3
   clear c3
   simp only [Option.some.injEq,Prod.mk.injEq] at H
   obtain ⟨rfl,rfl,rfl⟩:=H
   go_wp2_with (first|((with_reducible refine zBx 31 104 #[.slice A0 l0.length c0,.int .i64 0,.int .i64 x3_1] ?_);intro gb316 hg w5 hbox hb;replace HB:=zM (below_step zB3 hb);have BK316:=zM hbox;have GW316:=zM (zW hg (below_size zB29));have GE316:=zM ((Nat.le_trans HW0.1 (zW hg (below_size zB29)):w0.heap.size≤gb316));replace HBW:=zM (below_step HBW.out hb);clear hb hbox hg))
   go_ret
   exact ⟨_,rfl,(show IsS104 w0 _ gb316 l0 0 x3_1 from ⟨_,_,zK BK316.1,GE316.1,HR0.1⟩),zB3,zB29⟩

/-! ### spec_l1Long: function 33 -/
def spec_l1Long.f (l0:List Int) (a1:Int) (a2:Int):Option (Int):=if (wrap64 (a1+(wrap64 ((l0.length:Int) / 4))))>a2 then (some a2) else (some (wrap64 (a1+(wrap64 ((l0.length:Int) / 4)))))
theorem spec_l1Long.calls (A0:Option Addr) (c0:Nat) (l0:List Int) (a1:Int) (a2:Int) (r:Int) (w:World) (hr0:Kd.C (Kd.int .u8) w A0 l0.length l0) (hc0:l0.length≤c0) (h:spec_l1Long.f l0 a1 a2=some r):
  Calls Try.prog 33 #[.slice A0 l0.length c0,.int .i64 a1,.int .i64 a2] w fun e w'=>e= .returned (.int .i64 r)∧Drawn0 w w':=by
 have HR0:=zM hr0
 have HC0:=zM hc0
 clear hr0 hc0
 unfold spec_l1Long.f at h
 have H:=h
 clear h
 by_cases c4:(wrap64 (a1+(wrap64 ((l0.length:Int) / 4))))>a2
 ·rw [if_pos c4] at H
  have c4b0:=decide_eq_true c4
  clear c4
  obtain rfl:=Option.some.inj H
  go_enter Try.func33,Try.ntmps33
  go_wp2
  go_ret
  exact ⟨zJJ,zDD⟩
 rw [if_neg c4] at H
 have c4b0:=decide_eq_false c4
 clear c4
 obtain rfl:=Option.some.inj H
 go_enter Try.func33,Try.ntmps33
 go_wp2
 go_ret
 exact ⟨zJJ,zDD⟩

/-! ### spec_DrawSteps: function 6 -/
def spec_DrawSteps.f (k:Nat) (l0:List Int):Option (List Int×(List (S72))×List Int):=(spec_l1New.f k l0).bind fun bt318=>((spec_l1Long.f l0 40 80).bind fun t322=>((spec_l18DrawRun.f k bt318.1 bt318.2.1 bt318.2.2 t322).bind fun bt323=>(some (bt323.1,bt323.2.1,bt323.2.2.1))))
theorem spec_DrawSteps.mono: ∀a0 k,LeO (spec_DrawSteps.f k a0) (spec_DrawSteps.f (k+1) a0):=by
 intro a0 k
 unfold spec_DrawSteps.f
 have mo0:=@spec_l18DrawRun.mono
 have mo1:=@spec_l1New.mono
 exact zL
theorem spec_DrawSteps.calls (k:Nat) (A0:Option Addr) (c0:Nat) (l0:List Int) (r1:List Int) (r2:List (S72)) (r3:List Int) (w:World) (hr0:Kd.C (Kd.int .u8) w A0 l0.length l0) (hc0:l0.length≤c0) (h:spec_DrawSteps.f k l0=some (r1,r2,r3)):
  Calls Try.prog 6 #[.slice A0 l0.length c0] w fun e w'=>∃v0_ v1_ v2_:Value,e= .returned (.tuple #[v0_,v1_,v2_])∧Kd.R (Kd.int .i64) 3 w' w.heap.size (fun k_=>some k_≠(v2_:Value).ownBlock) v0_ r1∧Kd.S k72 72 w' w.heap.size (fun k_=>some k_≠(v0_:Value).ownBlock∧some k_≠(v2_:Value).ownBlock) v1_ r2∧Kd.R (Kd.int .i64) 3 w' w.heap.size (fun k_=>some k_≠(v0_:Value).ownBlock) v2_ r3∧Below w.heap.size w w':=by
 have HR0:=zM hr0
 have HC0:=zM hc0
 clear hr0 hc0
 have HB:=zM (Below.refl w.heap.size w)
 unfold spec_DrawSteps.f at h
 have H:=h
 clear h
 replace H:=zO H
 obtain ⟨⟨t318,t319,t320⟩,A2,H⟩:=H
 try dsimp only at H
 replace H:=zO H
 obtain ⟨t322,A3,H⟩:=H
 replace H:=zO H
 obtain ⟨⟨t323,t326,t329,t332,t333⟩,A4,H⟩:=H
 try dsimp only at H
 simp only [Option.some.injEq,Prod.mk.injEq] at H
 obtain ⟨rfl,rfl,rfl⟩:=H
 go_enter Try.func6,Try.ntmps6
 go_wp2_with (first|((with_reducible refine zG Try.func32 10 #[.slice A0 l0.length c0] ?_);(with_reducible refine (spec_l1New.calls k _ _ l0 t318 t319 t320 w _ ?side1 ?side2 ?side3 A2.1).mono ?_);(case side1=>exact zB3);(case side2=>exact HR0.1);(case side3=>exact HC0.1);rintro e w5 ⟨g321,rfl,hi,hb,hb2⟩;refine ⟨_,rfl,?_⟩;replace HB:=zM hb;have HI321:=zM hi;clear hb hb2 hi)|((with_reducible refine zG Try.func33 12 #[.slice A0 l0.length c0,.int .i64 40,.int .i64 80] ?_);(with_reducible refine (spec_l1Long.calls _ _ l0 40 80 t322 _ ?side1 ?side2 A3.1).mono ?_);(case side1=>exact zC (Kd.C_below HR0.1 HB.1));(case side2=>exact HC0.1);rintro e w' ⟨rfl,⟨nd,rfl⟩⟩;refine ⟨_,rfl,?_⟩)|((with_reducible refine zG Try.func31 13 #[.pointer (some ⟨g321,0,none⟩),.int .i64 t322] ?_);(with_reducible refine (spec_l18DrawRun.calls k g321 t318 t319 t320 t322 t323 t326 t329 t332 t333 w _ ?side1 ?side2 A4.1).mono ?_);(case side1=>exact zB34);(case side2=>exact zB35);rintro e w6 ⟨v324,v327,v330,rfl,ho0,ho1,ho2,hi,hb,hk⟩;refine ⟨_,rfl,?_⟩;have HO325:=zM (Kd.R_lower ho0 (below_size zB35));have HO328:=zM (Kd.S_lower ho1 (below_size zB35));have HO331:=zM (Kd.R_lower ho2 (below_size zB35));replace HB:=zM hb;replace HI321:=zM hi;clear hb hk hi ho0 ho1 ho2))
 go_ret3
 exact ⟨_,_,_,zE,zR HO325.1,zS HO328.1,zR HO331.1,zB35⟩

-- NOT PRINTED: function 115 (slices_IndexFunc_int_int)

-- NOT PRINTED: function 103 (slices_ContainsFunc_int_int)

/-! ### impl_from: function 37 -/
def impl_from.f (a0:Int) (a1:Int) (a2:Int):Option (Bool):=if a0≥a1 then (some (decide (a0≤a2))) else (some false)
theorem impl_from.calls (a0:Int) (a1:Int) (a2:Int) (r:Bool) (w:World) (h:impl_from.f a0 a1 a2=some r):
  Calls Try.prog 37 #[.int .i64 a0,.int .i64 a1,.int .i64 a2] w fun e w'=>e= .returned (.bool r)∧Drawn0 w w':=by
 unfold impl_from.f at h
 have H:=h
 clear h
 by_cases c4:a0≥a1
 ·rw [if_pos c4] at H
  have c4b0:=decide_eq_true c4
  clear c4
  obtain rfl:=Option.some.inj H
  go_enter Try.func37,Try.ntmps37
  go_wp2
  go_ret
  exact ⟨zJJ,zDD⟩
 rw [if_neg c4] at H
 have c4b0:=decide_eq_false c4
 clear c4
 obtain rfl:=Option.some.inj H
 go_enter Try.func37,Try.ntmps37
 go_wp2
 go_ret
 exact ⟨zJJ,zDD⟩

/-! ### impl_isWord: function 71 -/
def impl_isWord.f (a0:Int):Option (Bool):=(impl_from.f a0 0 65535).bind fun t334=>(some t334)
theorem impl_isWord.calls (a0:Int) (r:Bool) (w:World) (h:impl_isWord.f a0=some r):
  Calls Try.prog 71 #[.int .i64 a0] w fun e w'=>e= .returned (.bool r)∧Drawn0 w w':=by
 unfold impl_isWord.f at h
 have H:=h
 clear h
 replace H:=zO H
 obtain ⟨t334,A2,H⟩:=H
 obtain rfl:=Option.some.inj H
 go_enter Try.func71,Try.ntmps71
 go_wp2_with (first|((with_reducible refine zG Try.func37 4 #[.int .i64 a0,.int .i64 0,.int .i64 65535] ?_);(with_reducible refine (impl_from.calls a0 0 65535 t334 _ A2.1).mono ?_);rintro e w' ⟨rfl,⟨nd,rfl⟩⟩;refine ⟨_,rfl,?_⟩))
 go_ret
 exact ⟨zJJ,zDD⟩

/-! ### impl_wordsOk_1: function 104 -/
def impl_wordsOk_1.f (a0:Int):Option (Bool):=(impl_isWord.f a0).bind fun t335=>(some (!t335))
theorem impl_wordsOk_1.calls (a0:Int) (r:Bool) (w:World) (h:impl_wordsOk_1.f a0=some r):
  Calls Try.prog 104 #[.int .i64 a0] w fun e w'=>e= .returned (.bool r)∧Drawn0 w w':=by
 unfold impl_wordsOk_1.f at h
 have H:=h
 clear h
 replace H:=zO H
 obtain ⟨t335,A2,H⟩:=H
 obtain rfl:=Option.some.inj H
 go_enter Try.func104,Try.ntmps104
 go_wp2_with (first|((with_reducible refine zG Try.func71 4 #[.int .i64 a0] ?_);(with_reducible refine (impl_isWord.calls a0 t335 _ A2.1).mono ?_);rintro e w' ⟨rfl,⟨nd,rfl⟩⟩;refine ⟨_,rfl,?_⟩))
 go_ret
 exact ⟨zJJ,zDD⟩

/-! ### slices_IndexFunc_at_impl_wordsOk_1: function 115 -/
def slices_IndexFunc_at_impl_wordsOk_1.l0:Nat→List Int→Int→Int→Option (Int)
 |0,_,_,_=>none
 |k+1,x0,x7,x8=>if x8<x7 then (if 0≤x8 then (if x8<(x0.length:Int) then ((impl_wordsOk_1.f (rd x0 x8)).bind fun t337=>(if t337=true then (some x8) else (slices_IndexFunc_at_impl_wordsOk_1.l0 k x0 x7 (wrap64 (x8+1))))) else (none)) else (none)) else (some (-1))
def slices_IndexFunc_at_impl_wordsOk_1.f (k:Nat) (l0:List Int) (a1:Int):Option (Int):=slices_IndexFunc_at_impl_wordsOk_1.l0 k l0 (l0.length:Int) 0
theorem slices_IndexFunc_at_impl_wordsOk_1.mono_l: ∀k,(∀y0 y1 y2,LeO (slices_IndexFunc_at_impl_wordsOk_1.l0 k y0 y1 y2) (slices_IndexFunc_at_impl_wordsOk_1.l0 (k+1) y0 y1 y2))
 |0=>fun _ _ _ r h=>by simp [slices_IndexFunc_at_impl_wordsOk_1.l0] at h
 |k+1=>by
  have ih0:=slices_IndexFunc_at_impl_wordsOk_1.mono_l k
  ·intros
   unfold slices_IndexFunc_at_impl_wordsOk_1.l0
   exact zL
theorem slices_IndexFunc_at_impl_wordsOk_1.mono: ∀a0 a1 k,LeO (slices_IndexFunc_at_impl_wordsOk_1.f k a0 a1) (slices_IndexFunc_at_impl_wordsOk_1.f (k+1) a0 a1):=by
 intro a0 a1 k
 have ih0:=slices_IndexFunc_at_impl_wordsOk_1.mono_l k
 unfold slices_IndexFunc_at_impl_wordsOk_1.f
 exact zL
theorem slices_IndexFunc_at_impl_wordsOk_1.calls (k:Nat) (A0:Option Addr) (c0:Nat) (l0:List Int) (a1:Int) (r:Int) (w:World) (hr0:Kd.C (Kd.int .i64) w A0 l0.length l0) (hc0:l0.length≤c0) (h:slices_IndexFunc_at_impl_wordsOk_1.f k l0 a1=some r):
  Calls Try.prog 115 #[.slice A0 l0.length c0,.func (.func 104) #[] #[]] w fun e w'=>e= .returned (.int .i64 r)∧Drawn0 w w':=by
 have HR0:=zM hr0
 have HC0:=zM hc0
 clear hr0 hc0
 unfold slices_IndexFunc_at_impl_wordsOk_1.f at h
 have H:=h
 clear h
 have H':=zM H
 clear H
 go_enter Try.func115,Try.ntmps115
 go_wp2
 go_loopg [8] k (fun kq v8 w'=>∃(x8_1:Int),v8= .int .i64 x8_1∧Aside0 (slices_IndexFunc_at_impl_wordsOk_1.l0 kq l0 (l0.length:Int) x8_1=some r)∧Aside0 (kq≤k)∧Drawn0 w w')
 case atStart=>exact ⟨(0),zJJ,H',⟨Nat.le_refl _⟩,zDD⟩
 case round=>
  clear H'
  obtain ⟨x8_1,rfl,HA,HK1,⟨m1,rfl⟩⟩:=hrel
  cases gk with
  |zero=>exact absurd HA.1 (by simp [slices_IndexFunc_at_impl_wordsOk_1.l0])
  |succ k1=>
   have H:=HA.1
   clear HA
   simp only [slices_IndexFunc_at_impl_wordsOk_1.l0] at H
   by_cases c3:x8_1<(l0.length:Int)
   rotate_left
   ·rw [if_neg c3] at H
    have c3b0:=decide_eq_false c3
    clear c3
    obtain rfl:=Option.some.inj H
    go_wp2
    go_ret
    exact ⟨zJJ,zDD⟩
   rw [if_pos c3] at H
   have c3b0:=decide_eq_true c3
   clear c3
   replace H:=zIt H
   obtain ⟨c4b0,H⟩:=H
   replace H:=zIt H
   obtain ⟨c5b0,H⟩:=H
   replace H:=zO H
   obtain ⟨t337,A6,H⟩:=H
   by_cases c7:t337=true
   ·subst c7
    rw [if_pos rfl] at H
    obtain rfl:=Option.some.inj H
    obtain ⟨p336,q336,ad336,e336,hx336_0⟩:=zRd (Kd.at_int HR0.1 x8_1)
    cases e336
    go_wp2_with (first|(go_at_call 104;(with_reducible refine (impl_wordsOk_1.calls (rd l0 x8_1) true _ A6.1).mono ?_);rintro e w' ⟨rfl,⟨nd,rfl⟩⟩))
    go_ret
    exact ⟨zJJ,zDD⟩
   replace c7:=Bool.eq_false_iff.mpr c7
   subst c7
   rw [if_neg zF] at H
   have H':=zM H
   clear H
   obtain ⟨p336,q336,ad336,e336,hx336_0⟩:=zRd (Kd.at_int HR0.1 x8_1)
   cases e336
   go_wp2_with (first|(go_at_call 104;(with_reducible refine (impl_wordsOk_1.calls (rd l0 x8_1) false _ A6.1).mono ?_);rintro e w' ⟨rfl,⟨nd,rfl⟩⟩))
   go_roundg k1
   case measure=>have:=HK1.1;omega
   case rel=>exact ⟨(wrap64 (x8_1+1)),zJJ,H',⟨by have:=HK1.1;omega⟩,zDD⟩

/-! ### slices_ContainsFunc_at_impl_wordsOk_1: function 103 -/
def slices_ContainsFunc_at_impl_wordsOk_1.f (k:Nat) (l0:List Int) (a1:Int):Option (Bool):=(slices_IndexFunc_at_impl_wordsOk_1.f k l0 0).bind fun t338=>(some (decide (t338≥0)))
theorem slices_ContainsFunc_at_impl_wordsOk_1.mono: ∀a0 a1 k,LeO (slices_ContainsFunc_at_impl_wordsOk_1.f k a0 a1) (slices_ContainsFunc_at_impl_wordsOk_1.f (k+1) a0 a1):=by
 intro a0 a1 k
 unfold slices_ContainsFunc_at_impl_wordsOk_1.f
 have mo0:=@slices_IndexFunc_at_impl_wordsOk_1.mono
 exact zL
theorem slices_ContainsFunc_at_impl_wordsOk_1.calls (k:Nat) (A0:Option Addr) (c0:Nat) (l0:List Int) (a1:Int) (r:Bool) (w:World) (hr0:Kd.C (Kd.int .i64) w A0 l0.length l0) (hc0:l0.length≤c0) (h:slices_ContainsFunc_at_impl_wordsOk_1.f k l0 a1=some r):
  Calls Try.prog 103 #[.slice A0 l0.length c0,.func (.func 104) #[] #[]] w fun e w'=>e= .returned (.bool r)∧Drawn0 w w':=by
 have HR0:=zM hr0
 have HC0:=zM hc0
 clear hr0 hc0
 unfold slices_ContainsFunc_at_impl_wordsOk_1.f at h
 have H:=h
 clear h
 replace H:=zO H
 obtain ⟨t338,A3,H⟩:=H
 obtain rfl:=Option.some.inj H
 go_enter Try.func103,Try.ntmps103
 go_wp2_with (first|((with_reducible refine zG Try.func115 7 #[.slice A0 l0.length c0,.func (.func 104) #[] #[]] ?_);(with_reducible refine (slices_IndexFunc_at_impl_wordsOk_1.calls k _ _ l0 0 t338 _ ?side1 ?side2 A3.1).mono ?_);(case side1=>exact zC HR0.1);(case side2=>exact HC0.1);rintro e w' ⟨rfl,⟨nd,rfl⟩⟩;refine ⟨_,rfl,?_⟩))
 go_ret
 exact ⟨zJJ,zDD⟩

/-! ### impl_wordsOk: function 76 -/
def impl_wordsOk.f (k:Nat) (l0:List Int) (a1:Int):Option (Bool):=if (l0.length:Int)=a1 then ((slices_ContainsFunc_at_impl_wordsOk_1.f k l0 0).bind fun t339=>(some (!t339))) else (some false)
theorem impl_wordsOk.mono: ∀a0 a1 k,LeO (impl_wordsOk.f k a0 a1) (impl_wordsOk.f (k+1) a0 a1):=by
 intro a0 a1 k
 unfold impl_wordsOk.f
 have mo0:=@slices_ContainsFunc_at_impl_wordsOk_1.mono
 exact zL
theorem impl_wordsOk.calls (k:Nat) (A0:Option Addr) (c0:Nat) (l0:List Int) (a1:Int) (r:Bool) (w:World) (hr0:Kd.C (Kd.int .i64) w A0 l0.length l0) (hc0:l0.length≤c0) (h:impl_wordsOk.f k l0 a1=some r):
  Calls Try.prog 76 #[.slice A0 l0.length c0,.int .i64 a1] w fun e w'=>e= .returned (.bool r)∧Drawn0 w w':=by
 have HR0:=zM hr0
 have HC0:=zM hc0
 clear hr0 hc0
 unfold impl_wordsOk.f at h
 have H:=h
 clear h
 by_cases c3:(l0.length:Int)=a1
 rotate_left
 ·rw [if_neg c3] at H
  have c3b0:((l0.length:Int) == a1)=false:=beq_eq_false_iff_ne.mpr c3
  have c3b1:((l0.length:Int) != a1)=true:=bne_iff_ne.mpr c3
  obtain rfl:=Option.some.inj H
  go_enter Try.func76,Try.ntmps76
  go_wp2
  go_ret
  exact ⟨zJJ,zDD⟩
 rw [if_pos c3] at H
 have c3b0:((l0.length:Int) == a1)=true:=beq_iff_eq.mpr c3
 have c3b1:((l0.length:Int) != a1)=false:=bne_eq_false_iff_eq.mpr c3
 clear c3
 replace H:=zO H
 obtain ⟨t339,A4,H⟩:=H
 obtain rfl:=Option.some.inj H
 go_enter Try.func76,Try.ntmps76
 go_wp2_with (first|(go_at_call 103;(with_reducible refine (slices_ContainsFunc_at_impl_wordsOk_1.calls k _ _ l0 0 t339 _ ?side1 ?side2 A4.1).mono ?_);(case side1=>exact zC HR0.1);(case side2=>exact HC0.1);rintro e w' ⟨rfl,⟨nd,rfl⟩⟩))
 go_ret
 exact ⟨zJJ,zDD⟩

/-! ### impl_memOk: function 34 -/
def impl_memOk.f (k:Nat) (l0:List Int):Option (Bool):=(impl_wordsOk.f k l0 24).bind fun t340=>(some t340)
theorem impl_memOk.mono: ∀a0 k,LeO (impl_memOk.f k a0) (impl_memOk.f (k+1) a0):=by
 intro a0 k
 unfold impl_memOk.f
 have mo0:=@impl_wordsOk.mono
 exact zL
theorem impl_memOk.calls (k:Nat) (A0:Option Addr) (c0:Nat) (l0:List Int) (r:Bool) (w:World) (hr0:Kd.C (Kd.int .i64) w A0 l0.length l0) (hc0:l0.length≤c0) (h:impl_memOk.f k l0=some r):
  Calls Try.prog 34 #[.slice A0 l0.length c0] w fun e w'=>e= .returned (.bool r)∧Drawn0 w w':=by
 have HR0:=zM hr0
 have HC0:=zM hc0
 clear hr0 hc0
 unfold impl_memOk.f at h
 have H:=h
 clear h
 replace H:=zO H
 obtain ⟨t340,A2,H⟩:=H
 obtain rfl:=Option.some.inj H
 go_enter Try.func34,Try.ntmps34
 go_wp2_with (first|((with_reducible refine zG Try.func76 4 #[.slice A0 l0.length c0,.int .i64 24] ?_);(with_reducible refine (impl_wordsOk.calls k _ _ l0 24 t340 _ ?side1 ?side2 A2.1).mono ?_);(case side1=>exact zC HR0.1);(case side2=>exact HC0.1);rintro e w' ⟨rfl,⟨nd,rfl⟩⟩;refine ⟨_,rfl,?_⟩))
 go_ret
 exact ⟨zJJ,zDD⟩

/-! ### slices_Clone_int_int: function 35 -/
def slices_Clone_int_int.f (l0:List Int):Option (List Int):=if l0.length≤17592186044416 then some l0 else none
theorem slices_Clone_int_int.calls (A0:Option Addr) (c0:Nat) (l0:List Int) (r:List Int) (w:World) (hr0:Kd.C (Kd.int .i64) w A0 l0.length l0) (hc0:l0.length≤c0) (h:slices_Clone_int_int.f l0=some r):
  Calls Try.prog 35 #[.slice A0 l0.length c0] w fun e w'=>∃v0_:Value,e= .returned (v0_)∧Kd.R (Kd.int .i64) 3 w' w.heap.size (fun _=>True) v0_ r∧Below w.heap.size w w':=by
 unfold slices_Clone_int_int.f at h
 by_cases hl:l0.length≤17592186044416
 rotate_left
 ·rw [if_neg hl] at h
  exact absurd h (by simp)
 rw [if_pos hl] at h
 obtain rfl:=Option.some.inj h
 have LM:=zM hl
 clear h hl
 have HR0:=zM hr0
 have HC0:=zM hc0
 clear hr0 hc0
 have HB:=zM (Below.refl w.heap.size w)
 have q22: ∀(w:World) (a:Option Addr) (n c n' c':Nat),(binOp .eql 24 (.slice a n c) (.slice none n' c')).run Try.prog w= .ok (.bool a.isNone) w:=fun w a n c n' c'=>Lib.run_eql_slice_nil w _ _ a n c n' c' Try.underlying24
 cases A0 with
 |none=>
  have hz:l0=[]:=by
   cases l0 with
   |nil=>rfl
   |cons x xs=>obtain ⟨ad,e,_⟩:=HR0.1.2.2 (by simp);cases e
  subst hz
  go_enter Try.func35,Try.ntmps35
  go_wp2
  go_ret
  exact ⟨_,rfl,Kd.R_nil _ _ _ _ _,Below.refl _ _⟩
 |some ad=>
  obtain ⟨y1,hy1⟩: ∃y_:List Int,y_=([]:List Int):=⟨_,rfl⟩
  have Ny1:=zM hy1
  clear hy1
  go_enter Try.func35,Try.ntmps35
  go_wp2_with (first|((with_reducible refine gate_dst (N:=5) rfl ?_);refine Kd.R_lit (Kd.int .i64) _ 3 ?hg (N:=5) ?hd (xs:=([]:List Int)) (inner:=[]) (ok:=fun _=>True) (okp:=fun _=>True) ?hr ?hp (fun _ hk=>hk) trivial (Below.refl _ _) (Nat.le_refl _) (by simp) ?_;(case hd=>rfl);(case hg=>rfl);(case hr=>exact zHH);(case hp=>exact (Reps.none _ _));intro v461 w5 ho6 hb hg_ hnew_;clear hg_ hnew_;(first|rw [←Ny1.1] at ho6|(simp only [Int.reduceToNat] at ho6;rw [←Ny1.1] at ho6));have n0_:=zM (Kd.R_lower ho6 (below_size HB.1));have n3_:=zM (below_step HB.1 hb);clear HB;have HO462:=n0_;have HB:=n3_;clear n0_ n3_;clear hb ho6)|((with_reducible refine gate_builtin (b:= .append) (xs:=#[.tmp 5,.tmp 6]) rfl ?_);at_builtin;refine Kd.R_append_rows (Kd.int .i64) (w0:=w) w.heap.size rfl (.tmp 5) (.tmp 6) 24 3 (.int .i64 0) 8 rfl Try.underlying24 info3 rfl (by decide) (by omega) v461 y1 l0 _ _ _ (fun _=>True) (fun _=>False) rfl rfl ?aO ?aR (fun _ _ h=>h) (fun _ h=>h.elim) ?aF ?aB ?aS ?aL ?_;(case aR=>exact zC (Kd.C_below HR0.1 HB.1));(case aB=>exact zB3);(case aF=>exact (fun _ _=>trivial));(case aO=>exact (zR HO462.1));(case aS=>exact (below_size zB3));(case aL=>have h1_:=LM.out;have h2_:y1.length=0:=(by rw [Ny1.1];rfl);rw [h2_];omega);intro v464 w9 ho hb hg hat;rw [Ny1.1,List.nil_append] at ho;have n2_:=zM hb;have n3_:=zM ho;clear HB;clear HO462;have HB:=n2_;have HO465:=n3_;clear n2_ n3_;clear ho hb hg hat))
  go_ret
  exact ⟨_,rfl,HO465.1,HB.1⟩

end Go.Proofs.Ytaakcbgpmabaaaa.PFnSeen
