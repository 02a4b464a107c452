-- made by wip/tools/myprint.py out of the seat's translation
import Derived.Test.YtaakcbgpmabaaaaPFnSeenx0
import Derived.Test.YtaakcbgpmabaaaaPFnSeenx2
namespace Go.Proofs.Ytaakcbgpmabaaaa.PFnSeen
open Go.RowKit Go.Proofs.YtaakcbgpmabaaaaW.PrintWords Go.Proofs.YtaakcbgpmabaaaaW.PrintLast Go.Proofs.YtaakcbgpmabaaaaW.PrintMore
attribute [local go_sem] max2_int min2_int max_two min_two max_three min_three max_four min_four -- for this text's walks alone
set_option linter.unusedVariables false
set_option linter.unusedSimpArgs false
set_option maxHeartbeats 8000000
set_option maxRecDepth 100000

/-! ### spec_l8DrawIns: function 93 -/
mutual
def spec_l8DrawIns.j0:Nat→Int→List Int→Int→Int→Int→Int→Int→Int→Int→Option (Int×Int×Int×Int×Int×Int×Int)
 |0,_,_,_,_,_,_,_,_,_=>none
 |k+1,x4,x1000,x1001,x1002,x147000,x147001,x147002,x147003,x147004=>if (Go.bits .and .i64 x4 2)=0 then (spec_l8DrawIns.j1 k x4 x1000 x1001 x1002 x147000 x147001 x147002 x147003 x147004) else ((spec_l1Below.f x1000 x1001 x1002 4).bind fun bt151=>(spec_l8DrawIns.j1 k x4 x1000 bt151.2.1 bt151.2.2 x147000 x147001 bt151.1 x147003 x147004))
def spec_l8DrawIns.j1:Nat→Int→List Int→Int→Int→Int→Int→Int→Int→Int→Option (Int×Int×Int×Int×Int×Int×Int)
 |0,_,_,_,_,_,_,_,_,_=>none
 |k+1,x4,x1000,x1001,x1002,x147000,x147001,x147002,x147003,x147004=>if (Go.bits .and .i64 x4 4)=0 then (if (Go.bits .and .i64 x4 8)=0 then (some (x147000,x147001,x147002,x147003,x147004,x1001,x1002)) else ((spec_l1PickInt.f x1000 x1001 x1002 (([0,1,2,4,8,9,12,20,23]:List Int))).bind fun bt157=>(some (x147000,x147001,x147002,x147003,bt157.1,bt157.2.1,bt157.2.2)))) else ((spec_l1Below.f x1000 x1001 x1002 4).bind fun bt160=>(if (Go.bits .and .i64 x4 8)=0 then (some (x147000,x147001,x147002,bt160.1,x147004,bt160.2.1,bt160.2.2)) else ((spec_l1PickInt.f x1000 bt160.2.1 bt160.2.2 (([0,1,2,4,8,9,12,20,23]:List Int))).bind fun bt166=>(some (x147000,x147001,x147002,bt160.1,bt166.1,bt166.2.1,bt166.2.2)))))
end
def spec_l8DrawIns.f (k:Nat) (s0_0:List Int) (s0_1:Int) (s0_2:Int):Option (Int×Int×Int×Int×Int×Int×Int):=(spec_l1PickInt.f s0_0 s0_1 s0_2 (([1,1,2,3,3,4,4,5,5,5,6,6,7,8,9,10]:List Int))).bind fun bt143=>((spec_l8Has.f bt143.1).bind fun t147=>(if (Go.bits .and .i64 t147 1)=0 then (spec_l8DrawIns.j0 k t147 s0_0 bt143.2.1 bt143.2.2 bt143.1 0 0 0 0) else ((spec_l1Below.f s0_0 bt143.2.1 bt143.2.2 4).bind fun bt148=>(spec_l8DrawIns.j0 k t147 s0_0 bt148.2.1 bt148.2.2 bt143.1 bt148.1 0 0 0))))
theorem spec_l8DrawIns.mono_l: ∀k,(∀y0 y1 y2 y3 y4 y5 y6 y7 y8,LeO (spec_l8DrawIns.j0 k y0 y1 y2 y3 y4 y5 y6 y7 y8) (spec_l8DrawIns.j0 (k+1) y0 y1 y2 y3 y4 y5 y6 y7 y8))∧(∀y0 y1 y2 y3 y4 y5 y6 y7 y8,LeO (spec_l8DrawIns.j1 k y0 y1 y2 y3 y4 y5 y6 y7 y8) (spec_l8DrawIns.j1 (k+1) y0 y1 y2 y3 y4 y5 y6 y7 y8))
 |0=>⟨fun _ _ _ _ _ _ _ _ _ r h=>by simp [spec_l8DrawIns.j0] at h,fun _ _ _ _ _ _ _ _ _ r h=>by simp [spec_l8DrawIns.j1] at h⟩
 |k+1=>by
  obtain ⟨ih0,ih1⟩:=spec_l8DrawIns.mono_l k
  refine ⟨?_,?_⟩
  ·intros
   unfold spec_l8DrawIns.j0
   exact zL
  ·intros
   unfold spec_l8DrawIns.j1
   exact zL
theorem spec_l8DrawIns.mono: ∀a0 a1 a2 k,LeO (spec_l8DrawIns.f k a0 a1 a2) (spec_l8DrawIns.f (k+1) a0 a1 a2):=by
 intro a0 a1 a2 k
 obtain ⟨ih0,ih1⟩:=spec_l8DrawIns.mono_l k
 unfold spec_l8DrawIns.f
 exact zL
theorem spec_l8DrawIns.calls (k:Nat) (g:Nat) (s0_0:List Int) (s0_1:Int) (s0_2:Int) (r1:Int) (r2:Int) (r3:Int) (r4:Int) (r5:Int) (r6:Int) (r7:Int) (w0 w:World) (hI:IsS104 w0 w g s0_0 s0_1 s0_2) (hB:Below w0.heap.size w0 w) (h:spec_l8DrawIns.f k s0_0 s0_1 s0_2=some (r1,r2,r3,r4,r5,r6,r7)):
  Calls Try.prog 93 #[.pointer (some ⟨g,0,none⟩)] w fun e w'=>e= .returned (.agg #[.int .i64 r1,.int .i64 r2,.int .i64 r3,.int .i64 r4,.int .i64 r5])∧IsS104 w0 w' g s0_0 r6 r7∧Below w0.heap.size w0 w'∧KeepBut w w' g none:=by
 have hu57:=Try.underlying57
 have HI0:=zM hI
 have HK:=zM (KeepBut.refl w g none)
 have HL:=zM hB.size
 clear hI
 have HW0:=zM hB.size
 have HB:=zM hB
 clear hB
 unfold spec_l8DrawIns.f at h
 have H:=h
 clear h
 generalize hy140:((([1,1,2,3,3,4,4,5,5,5,6,6,7,8,9,10]:List Int)):List Int)=y140 at H
 have Ny140:=zM hy140.symm
 clear hy140
 replace H:=zO H
 obtain ⟨⟨t143,t144,t145⟩,A2,H⟩:=H
 try dsimp only at H
 replace H:=zO H
 obtain ⟨t147,A3,H⟩:=H
 have HC4:=zM H
 clear H
 go_enter Try.func93,Try.ntmps93
 go_upto_if 14 with (first|((with_reducible refine zBx 2 57 #[.int .i64 0,.int .i64 0,.int .i64 0,.int .i64 0,.int .i64 0] ?_);intro gb139 hg w5 hbox hb;replace HB:=zM (below_step zB1 hb);have BK139:=zM hbox;have GW139:=zM ((by rw [hg];exact (keep_size (w:=w) (g:=g) (row:=none) zB2):w.heap.size≤gb139));have GE139:=zM ((Nat.le_trans HW0.1 (by rw [hg];exact (keep_size (w:=w) (g:=g) (row:=none) zB2):w.heap.size≤gb139):w0.heap.size≤gb139));replace HK:=zM (KeepBut.trans zB2 (KeepBut.of_below hb g none) (.inl rfl));have NB0_139:=zM ((by rw [hg];exact Nat.ne_of_lt (IsS104.lt (show IsS104 w0 _ g s0_0 s0_1 s0_2 from zB0)):g≠gb139));have NB139_0:=zM ((by rw [hg];exact Nat.ne_of_gt (IsS104.lt (show IsS104 w0 _ g s0_0 s0_1 s0_2 from zB0)):gb139≠g));replace HI0:=zM (IsS104.below zB0 hb);clear hb hbox hg)|((with_reducible refine gate_dst (N:=6) rfl ?_);refine Kd.R_lit (Kd.int .i64) _ 3 ?hg (N:=6) ?hd (xs:=([1,1,2,3,3,4,4,5,5,5,6,6,7,8,9,10]:List Int)) (inner:=[.int .i64 1,.int .i64 1,.int .i64 2,.int .i64 3,.int .i64 3,.int .i64 4,.int .i64 4,.int .i64 5,.int .i64 5,.int .i64 5,.int .i64 6,.int .i64 6,.int .i64 7,.int .i64 8,.int .i64 9,.int .i64 10]) (ok:=fun _=>True) (okp:=fun _=>True) ?hr ?hp (fun _ hk=>hk) trivial (Below.refl _ _) (Nat.le_refl _) (by simp) ?_;(case hd=>rfl);(case hg=>rfl);(case hr=>exact zHH);(case hp=>exact (Reps.one (show Kd.M (Kd.int .i64) _ _ _ 1 [.int .i64 1] from rfl) (Reps.one (show Kd.M (Kd.int .i64) _ _ _ 1 [.int .i64 1] from rfl) (Reps.one (show Kd.M (Kd.int .i64) _ _ _ 2 [.int .i64 2] from rfl) (Reps.one (show Kd.M (Kd.int .i64) _ _ _ 3 [.int .i64 3] from rfl) (Reps.one (show Kd.M (Kd.int .i64) _ _ _ 3 [.int .i64 3] from rfl) (Reps.one (show Kd.M (Kd.int .i64) _ _ _ 4 [.int .i64 4] from rfl) (Reps.one (show Kd.M (Kd.int .i64) _ _ _ 4 [.int .i64 4] from rfl) (Reps.one (show Kd.M (Kd.int .i64) _ _ _ 5 [.int .i64 5] from rfl) (Reps.one (show Kd.M (Kd.int .i64) _ _ _ 5 [.int .i64 5] from rfl) (Reps.one (show Kd.M (Kd.int .i64) _ _ _ 5 [.int .i64 5] from rfl) (Reps.one (show Kd.M (Kd.int .i64) _ _ _ 6 [.int .i64 6] from rfl) (Reps.one (show Kd.M (Kd.int .i64) _ _ _ 6 [.int .i64 6] from rfl) (Reps.one (show Kd.M (Kd.int .i64) _ _ _ 7 [.int .i64 7] from rfl) (Reps.one (show Kd.M (Kd.int .i64) _ _ _ 8 [.int .i64 8] from rfl) (Reps.one (show Kd.M (Kd.int .i64) _ _ _ 9 [.int .i64 9] from rfl) (Reps.one (show Kd.M (Kd.int .i64) _ _ _ 10 [.int .i64 10] from rfl) (Reps.none _ _))))))))))))))))));intro v141 w6 ho7 hb hg_ hnew_;clear hg_ hnew_;(first|rw [←Ny140.1] at ho7|(simp only [Int.reduceToNat] at ho7;rw [←Ny140.1] at ho7));have HO142:=zM (Kd.R_lower ho7 (keep_size (w:=w) (g:=g) (row:=none) zB2));replace BK139:=zM (zb BK139.1 hb);replace HK:=zM (KeepBut.trans zB2 (KeepBut.of_below hb g none) (.inl rfl));replace HB:=zM (below_step zB1 hb);replace HI0:=zM (IsS104.below zB7 hb);clear hb ho7;obtain ⟨Ao8,co8,eo8⟩:=Kd.R_slice HO142.1;subst eo8)|((with_reducible refine zG Try.func84 7 #[.pointer (some ⟨g,0,none⟩),.slice Ao8 y140.length co8] ?_);(with_reducible refine (spec_l1PickInt.calls g s0_0 s0_1 s0_2 _ _ y140 t143 t144 t145 w0 _ ?side1 ?side2 ?side3 ?side4 ?side5 A2.1).mono ?_);(case side1=>exact zB7);(case side2=>exact zB1);(case side3=>exact zC (Kd.R_reads' HO142.1).2.2);(case side4=>exact (Kd.R_reads' HO142.1).2.1);(case side5=>exact far_slice (IsS104.own_ne HI0.1 HO142.1 (by decide)));rintro e w9 ⟨rfl,hi,hb,hk⟩;refine ⟨_,rfl,?_⟩;replace BK139:=zM (zh hk BK139.1 NB139_0.1);replace HO142:=zM (Kd.R_mono (Kd.R_keep (IsS104.apart (show IsS104 w0 _ g s0_0 s0_1 s0_2 from zB7) (zR HO142.1) (by decide)) hk (fun _ h=>h.2)) (fun _ h=>h.1));replace HK:=zM (KeepBut.trans zB2 hk (.inl rfl));replace HB:=zM hb;replace HI0:=zM hi;clear hb hk hi)|((with_reducible refine zBx 3 57 #[.int .i64 0,.int .i64 0,.int .i64 0,.int .i64 0,.int .i64 0] ?_);intro gb146 hg w10 hbox hb;replace HO142:=zM (Kd.R_below (zR HO142.1) hb);replace HB:=zM (below_step zB1 hb);have BK146:=zM hbox;have GW146:=zM ((by rw [hg];exact (keep_size (w:=w) (g:=g) (row:=none) zB2):w.heap.size≤gb146));have GE146:=zM ((Nat.le_trans HW0.1 (by rw [hg];exact (keep_size (w:=w) (g:=g) (row:=none) zB2):w.heap.size≤gb146):w0.heap.size≤gb146));replace HK:=zM (KeepBut.trans zB2 (KeepBut.of_below hb g none) (.inl rfl));have NB139_146:=zM ((zn BK139.1 hg:gb139≠gb146));have NB146_139:=zM ((zm BK139.1 hg:gb146≠gb139));replace BK139:=zM (zb BK139.1 hb);have NB0_146:=zM ((by rw [hg];exact Nat.ne_of_lt (IsS104.lt (show IsS104 w0 _ g s0_0 t144 t145 from zB7)):g≠gb146));have NB146_0:=zM ((by rw [hg];exact Nat.ne_of_gt (IsS104.lt (show IsS104 w0 _ g s0_0 t144 t145 from zB7)):gb146≠g));replace HI0:=zM (IsS104.below zB7 hb);clear hb hbox hg;have hnb11:=NB146_139.1;have hnc11:=NB139_146.1;have hnb12:=NB146_0.1;have hnc12:=NB0_146.1;have hcz13:=zc_5 (w:=w10) BK146.1)|((with_reducible refine zG Try.func100 11 #[.int .i64 t143] ?_);(with_reducible refine (spec_l8Has.calls t143 t147 _ A3.1).mono ?_);rintro e w14 ⟨rfl,hb⟩;refine ⟨_,rfl,?_⟩;replace HO142:=zM (Kd.R_below (by refine zrR ?_;exact (Kd.R_mono (zfR (zfR (zfR (zfR (zfR (Kd.R_types HO142.1 BK146.1 (by decide))))))) (fun _ h_=>h_.1))) hb);replace BK139:=zM (zf BK139.1 hb);replace BK146:=zM (blk_below (g:=gb146) (o:= .cells #[.int .i64 t143,.int .i64 0,.int .i64 0,.int .i64 0,.int .i64 0] 57 (0,0)) (by exact zp5 (zK BK146.1)) hb);replace HK:=zM (KeepBut.trans zB2 (KeepBut.of_below hb g none) (.inl rfl));replace HB:=zM (below_step zB1 hb);replace HI0:=zM (IsS104.below (show IsS104 w0 (((((w10.setCell ⟨gb146,0,none⟩ (.int .i64 t143)).setCell ⟨gb146,1,none⟩ (.int .i64 0)).setCell ⟨gb146,2,none⟩ (.int .i64 0)).setCell ⟨gb146,3,none⟩ (.int .i64 0)).setCell ⟨gb146,4,none⟩ (.int .i64 0)) g s0_0 t144 t145 from zB9) hb);clear hb))
 (try simp only [Act.put,List.setIfInBounds_toArray,List.set_cons_zero,List.set_cons_succ])
 go_cut [] (fun wc=>∃(kq:Nat) (x1001_3:Int) (x1002_3:Int) (x147001_3:Int),Aside0 (spec_l8DrawIns.j0 kq t147 s0_0 x1001_3 x1002_3 t143 x147001_3 0 0 0=some (r1,r2,r3,r4,r5,r6,r7))∧Aside0 (kq≤k)∧Aside0 (wc.heap[gb139]? =some (.cells #[.int .i64 0,.int .i64 0,.int .i64 0,.int .i64 0,.int .i64 0] 57 (0,0)))∧Aside0 (wc.heap[gb146]? =some (.cells #[.int .i64 t143,.int .i64 x147001_3,.int .i64 0,.int .i64 0,.int .i64 0] 57 (0,0)))∧Aside0 (IsS104 w0 wc g s0_0 x1001_3 x1002_3)∧Aside0 (KeepBut w wc g none)∧Aside0 (Below w0.heap.size w0 wc))
 case first=>
  have H:=HC4.1
  clear HC4
  by_cases c15:(Go.bits .and .i64 t147 1)=0
  ·rw [if_pos c15] at H
   have c15b0:((Go.bits .and .i64 t147 1) == 0)=true:=beq_iff_eq.mpr c15
   have c15b1:((Go.bits .and .i64 t147 1) != 0)=false:=bne_eq_false_iff_eq.mpr c15
   clear c15
   (first|rw [c15b0]|(simp only [i64_w,i32_w];rw [c15b0])|skip)
   have H':=zM H
   clear H
   go_wp2
   go_meet
   case rel=>exact ⟨_,(t144),(t145),(0),H',⟨by first|omega|exact Nat.le_refl _⟩,⟨zK BK139.1⟩,⟨zK BK146.1⟩,⟨zB9⟩,⟨zB2⟩,⟨zB1⟩⟩
  rw [if_neg c15] at H
  have c15b0:((Go.bits .and .i64 t147 1) == 0)=false:=beq_eq_false_iff_ne.mpr c15
  have c15b1:((Go.bits .and .i64 t147 1) != 0)=true:=bne_iff_ne.mpr c15
  (first|rw [c15b0]|(simp only [i64_w,i32_w];rw [c15b0])|skip)
  replace H:=zO H
  obtain ⟨⟨t148,t149,t150⟩,A16,H⟩:=H
  try dsimp only at H
  have H':=zM H
  clear H
  go_wp2_with (first|((with_reducible refine zG Try.func43 16 #[.pointer (some ⟨g,0,none⟩),.int .i64 4] ?_);(with_reducible refine (spec_l1Below.calls g s0_0 t144 t145 4 t148 t149 t150 w0 _ ?side1 ?side2 A16.1).mono ?_);(case side1=>exact zB9);(case side2=>exact zB1);rintro e w17 ⟨rfl,hi,hb,hk⟩;refine ⟨_,rfl,?_⟩;replace BK139:=zM (zh hk BK139.1 NB139_0.1);replace HO142:=zM (Kd.R_mono (Kd.R_keep (IsS104.apart (show IsS104 w0 _ g s0_0 t144 t145 from zB9) (zR HO142.1) (by decide)) hk (fun _ h=>h.2)) (fun _ h=>h.1));replace BK146:=zM (zh hk BK146.1 NB146_0.1);replace HK:=zM (KeepBut.trans zB2 hk (.inl rfl));replace HB:=zM hb;replace HI0:=zM hi;clear hb hk hi;have hnb18:=NB146_139.1;have hnc18:=NB139_146.1;have hnb19:=NB146_0.1;have hnc19:=NB0_146.1;have hcz20:=zc_5 (w:=w17) BK146.1))
  go_meet
  case rel=>exact ⟨_,(t149),(t150),(t148),H',⟨by first|omega|exact Nat.le_refl _⟩,⟨by refine zP ?_;refine blk_far ?_ NB139_146.1 _;refine zP ?_;exact BK139.1⟩,⟨by refine zP ?_;refine blk_put (cs:=#[.int .i64 t143,.int .i64 0,.int .i64 0,.int .i64 0,.int .i64 0]) ?_ 1 _ rfl;refine zP ?_;exact BK146.1⟩,⟨zB9⟩,⟨zB2⟩,⟨zB1⟩⟩
 case rest=>
  clear HC4
  obtain ⟨kq,x1001_3,x1002_3,x147001_3,HA,HJ3,BK139,BK146,HI0,HK,HB⟩:=hcut
  cases kq with
  |zero=>exact absurd HA.1 (by simp [spec_l8DrawIns.j0])
  |succ kj3=>
   have H:=HA.1
   clear HA
   simp only [spec_l8DrawIns.j0] at H
   have HC21:=zM H
   clear H
   go_upto_if 20 with (fail)
   go_cut [] (fun wc=>∃(kq:Nat) (x1001_20:Int) (x1002_20:Int) (x147002_20:Int),Aside0 (spec_l8DrawIns.j1 kq t147 s0_0 x1001_20 x1002_20 t143 x147001_3 x147002_20 0 0=some (r1,r2,r3,r4,r5,r6,r7))∧Aside0 (kq≤kj3)∧Aside0 (wc.heap[gb139]? =some (.cells #[.int .i64 0,.int .i64 0,.int .i64 0,.int .i64 0,.int .i64 0] 57 (0,0)))∧Aside0 (wc.heap[gb146]? =some (.cells #[.int .i64 t143,.int .i64 x147001_3,.int .i64 x147002_20,.int .i64 0,.int .i64 0] 57 (0,0)))∧Aside0 (IsS104 w0 wc g s0_0 x1001_20 x1002_20)∧Aside0 (KeepBut w wc g none)∧Aside0 (Below w0.heap.size w0 wc))
   case first=>
    have H:=HC21.1
    clear HC21
    by_cases c22:(Go.bits .and .i64 t147 2)=0
    ·rw [if_pos c22] at H
     have c22b0:((Go.bits .and .i64 t147 2) == 0)=true:=beq_iff_eq.mpr c22
     have c22b1:((Go.bits .and .i64 t147 2) != 0)=false:=bne_eq_false_iff_eq.mpr c22
     clear c22
     (first|rw [c22b0]|(simp only [i64_w,i32_w];rw [c22b0])|skip)
     have H':=zM H
     clear H
     go_wp2
     go_meet
     case rel=>exact ⟨_,(x1001_3),(x1002_3),(0),H',⟨by have:=HJ3.1;first|omega|exact Nat.le_refl _⟩,⟨zK BK139.1⟩,⟨zK BK146.1⟩,⟨zB9⟩,⟨zB2⟩,⟨zB1⟩⟩
    rw [if_neg c22] at H
    have c22b0:((Go.bits .and .i64 t147 2) == 0)=false:=beq_eq_false_iff_ne.mpr c22
    have c22b1:((Go.bits .and .i64 t147 2) != 0)=true:=bne_iff_ne.mpr c22
    (first|rw [c22b0]|(simp only [i64_w,i32_w];rw [c22b0])|skip)
    replace H:=zO H
    obtain ⟨⟨t151,t152,t153⟩,A23,H⟩:=H
    try dsimp only at H
    have H':=zM H
    clear H
    go_wp2_with (first|((with_reducible refine zG Try.func43 22 #[.pointer (some ⟨g,0,none⟩),.int .i64 4] ?_);(with_reducible refine (spec_l1Below.calls g s0_0 x1001_3 x1002_3 4 t151 t152 t153 w0 _ ?side1 ?side2 A23.1).mono ?_);(case side1=>exact zB9);(case side2=>exact zB1);rintro e w24 ⟨rfl,hi,hb,hk⟩;refine ⟨_,rfl,?_⟩;replace BK139:=zM (zh hk BK139.1 NB139_0.1);replace BK146:=zM (zh hk BK146.1 NB146_0.1);replace HK:=zM (KeepBut.trans zB2 hk (.inl rfl));replace HB:=zM hb;replace HI0:=zM hi;clear hb hk hi;have hnb25:=NB146_139.1;have hnc25:=NB139_146.1;have hnb26:=NB146_0.1;have hnc26:=NB0_146.1;have hcz27:=zc_5 (w:=w24) BK146.1))
    go_meet
    case rel=>exact ⟨_,(t152),(t153),(t151),H',⟨by have:=HJ3.1;first|omega|exact Nat.le_refl _⟩,⟨by refine zP ?_;refine blk_far ?_ NB139_146.1 _;refine zP ?_;exact BK139.1⟩,⟨by refine zP ?_;refine blk_put (cs:=#[.int .i64 t143,.int .i64 x147001_3,.int .i64 0,.int .i64 0,.int .i64 0]) ?_ 2 _ rfl;refine zP ?_;exact BK146.1⟩,⟨zB9⟩,⟨zB2⟩,⟨zB1⟩⟩
   case rest=>
    clear HC21
    obtain ⟨kq,x1001_20,x1002_20,x147002_20,HA,HJ20,BK139,BK146,HI0,HK,HB⟩:=hcut
    cases kq with
    |zero=>exact absurd HA.1 (by simp [spec_l8DrawIns.j1])
    |succ kj20=>
     have H:=HA.1
     clear HA
     simp only [spec_l8DrawIns.j1] at H
     by_cases c28:(Go.bits .and .i64 t147 4)=0
     ·rw [if_pos c28] at H
      have c28b0:((Go.bits .and .i64 t147 4) == 0)=true:=beq_iff_eq.mpr c28
      have c28b1:((Go.bits .and .i64 t147 4) != 0)=false:=bne_eq_false_iff_eq.mpr c28
      clear c28
      by_cases c29:(Go.bits .and .i64 t147 8)=0
      ·rw [if_pos c29] at H
       have c29b0:((Go.bits .and .i64 t147 8) == 0)=true:=beq_iff_eq.mpr c29
       have c29b1:((Go.bits .and .i64 t147 8) != 0)=false:=bne_eq_false_iff_eq.mpr c29
       clear c29
       simp only [Option.some.injEq,Prod.mk.injEq] at H
       obtain ⟨rfl,rfl,rfl,rfl,rfl,rfl,rfl⟩:=H
       have hnb30:=NB146_139.1
       have hnc30:=NB139_146.1
       have hnb31:=NB146_0.1
       have hnc31:=NB0_146.1
       have hcz32:=zc_5 (w:=wc) BK146.1
       have hnb33:=NB139_0.1
       have hnc33:=NB0_139.1
       have hcz34:=zc_5 (w:=wc) BK139.1
       go_wp2
       refine bodyPost_ret (results_cell_row rfl _ _ gb139 57 #[.int .i64 t143,.int .i64 x147001_3,.int .i64 x147002_20,.int .i64 0,.int .i64 0] (0,0) _ rfl (by exact zp5 (zK BK139.1)) Try.underlying57 rfl (by kernel_rfl)) rfl ?_
       exact ⟨zE,zB9,zB1,zB2⟩
      rw [if_neg c29] at H
      have c29b0:((Go.bits .and .i64 t147 8) == 0)=false:=beq_eq_false_iff_ne.mpr c29
      have c29b1:((Go.bits .and .i64 t147 8) != 0)=true:=bne_iff_ne.mpr c29
      generalize hy154:((([0,1,2,4,8,9,12,20,23]:List Int)):List Int)=y154 at H
      have Ny154:=zM hy154.symm
      clear hy154
      replace H:=zO H
      obtain ⟨⟨t157,t158,t159⟩,A35,H⟩:=H
      try dsimp only at H
      simp only [Option.some.injEq,Prod.mk.injEq] at H
      obtain ⟨rfl,rfl,rfl,rfl,rfl,rfl,rfl⟩:=H
      go_wp2_with (first|((with_reducible refine gate_dst (N:=34) rfl ?_);refine Kd.R_lit (Kd.int .i64) _ 3 ?hg (N:=34) ?hd (xs:=([0,1,2,4,8,9,12,20,23]:List Int)) (inner:=[.int .i64 0,.int .i64 1,.int .i64 2,.int .i64 4,.int .i64 8,.int .i64 9,.int .i64 12,.int .i64 20,.int .i64 23]) (ok:=fun _=>True) (okp:=fun _=>True) ?hr ?hp (fun _ hk=>hk) trivial (Below.refl _ _) (Nat.le_refl _) (by simp) ?_;(case hd=>rfl);(case hg=>rfl);(case hr=>exact zHH);(case hp=>exact (Reps.one (show Kd.M (Kd.int .i64) _ _ _ 0 [.int .i64 0] from rfl) (Reps.one (show Kd.M (Kd.int .i64) _ _ _ 1 [.int .i64 1] from rfl) (Reps.one (show Kd.M (Kd.int .i64) _ _ _ 2 [.int .i64 2] from rfl) (Reps.one (show Kd.M (Kd.int .i64) _ _ _ 4 [.int .i64 4] from rfl) (Reps.one (show Kd.M (Kd.int .i64) _ _ _ 8 [.int .i64 8] from rfl) (Reps.one (show Kd.M (Kd.int .i64) _ _ _ 9 [.int .i64 9] from rfl) (Reps.one (show Kd.M (Kd.int .i64) _ _ _ 12 [.int .i64 12] from rfl) (Reps.one (show Kd.M (Kd.int .i64) _ _ _ 20 [.int .i64 20] from rfl) (Reps.one (show Kd.M (Kd.int .i64) _ _ _ 23 [.int .i64 23] from rfl) (Reps.none _ _)))))))))));intro v155 w36 ho37 hb hg_ hnew_;clear hg_ hnew_;(first|rw [←Ny154.1] at ho37|(simp only [Int.reduceToNat] at ho37;rw [←Ny154.1] at ho37));have HO156:=zM (Kd.R_lower ho37 (keep_size (w:=w) (g:=g) (row:=none) zB2));replace BK139:=zM (zb BK139.1 hb);replace BK146:=zM (zb BK146.1 hb);replace HK:=zM (KeepBut.trans zB2 (KeepBut.of_below hb g none) (.inl rfl));replace HB:=zM (below_step zB1 hb);replace HI0:=zM (IsS104.below zB9 hb);clear hb ho37;obtain ⟨Ao38,co38,eo38⟩:=Kd.R_slice HO156.1;subst eo38)|((with_reducible refine zG Try.func84 35 #[.pointer (some ⟨g,0,none⟩),.slice Ao38 y154.length co38] ?_);(with_reducible refine (spec_l1PickInt.calls g s0_0 x1001_20 x1002_20 _ _ y154 t157 t158 t159 w0 _ ?side1 ?side2 ?side3 ?side4 ?side5 A35.1).mono ?_);(case side1=>exact zB9);(case side2=>exact zB1);(case side3=>exact zC (Kd.R_reads' HO156.1).2.2);(case side4=>exact (Kd.R_reads' HO156.1).2.1);(case side5=>exact far_slice (IsS104.own_ne HI0.1 HO156.1 (by decide)));rintro e w39 ⟨rfl,hi,hb,hk⟩;refine ⟨_,rfl,?_⟩;replace BK139:=zM (zh hk BK139.1 NB139_0.1);replace BK146:=zM (zh hk BK146.1 NB146_0.1);replace HO156:=zM (Kd.R_mono (Kd.R_keep (IsS104.apart (show IsS104 w0 _ g s0_0 x1001_20 x1002_20 from zB9) (zR HO156.1) (by decide)) hk (fun _ h=>h.2)) (fun _ h=>h.1));replace HK:=zM (KeepBut.trans zB2 hk (.inl rfl));replace HB:=zM hb;replace HI0:=zM hi;clear hb hk hi;have hnb40:=NB146_139.1;have hnc40:=NB139_146.1;have hnb41:=NB146_0.1;have hnc41:=NB0_146.1;have hcz42:=zc_5 (w:=w39) BK146.1;have hnb43:=NB139_0.1;have hnc43:=NB0_139.1;have hcz44:=zc_5 (w:=w39) BK139.1))
      refine bodyPost_ret (results_cell_row rfl _ _ gb139 57 #[.int .i64 t143,.int .i64 x147001_3,.int .i64 x147002_20,.int .i64 0,.int .i64 t157] (0,0) _ rfl (by refine zP ?_;refine blk_put (cs:=#[.int .i64 t143,.int .i64 x147001_3,.int .i64 x147002_20,.int .i64 0,.int .i64 0]) ?_ 4 _ rfl;refine zP ?_;refine blk_put (cs:=#[.int .i64 t143,.int .i64 x147001_3,.int .i64 x147002_20,.int .i64 0,.int .i64 0]) ?_ 3 _ rfl;refine zP ?_;refine blk_put (cs:=#[.int .i64 t143,.int .i64 x147001_3,.int .i64 0,.int .i64 0,.int .i64 0]) ?_ 2 _ rfl;refine zP ?_;refine blk_put (cs:=#[.int .i64 t143,.int .i64 0,.int .i64 0,.int .i64 0,.int .i64 0]) ?_ 1 _ rfl;refine zP ?_;refine blk_put (cs:=#[.int .i64 0,.int .i64 0,.int .i64 0,.int .i64 0,.int .i64 0]) ?_ 0 _ rfl;refine zP ?_;refine blk_far ?_ NB139_146.1 _;refine zP ?_;exact BK139.1) Try.underlying57 rfl (by kernel_rfl)) rfl ?_
      exact ⟨zE,zB9,zB1,zB2⟩
     rw [if_neg c28] at H
     have c28b0:((Go.bits .and .i64 t147 4) == 0)=false:=beq_eq_false_iff_ne.mpr c28
     have c28b1:((Go.bits .and .i64 t147 4) != 0)=true:=bne_iff_ne.mpr c28
     replace H:=zO H
     obtain ⟨⟨t160,t161,t162⟩,A45,H⟩:=H
     try dsimp only at H
     by_cases c46:(Go.bits .and .i64 t147 8)=0
     ·rw [if_pos c46] at H
      have c46b0:((Go.bits .and .i64 t147 8) == 0)=true:=beq_iff_eq.mpr c46
      have c46b1:((Go.bits .and .i64 t147 8) != 0)=false:=bne_eq_false_iff_eq.mpr c46
      clear c46
      simp only [Option.some.injEq,Prod.mk.injEq] at H
      obtain ⟨rfl,rfl,rfl,rfl,rfl,rfl,rfl⟩:=H
      go_wp2_with (first|((with_reducible refine zG Try.func43 28 #[.pointer (some ⟨g,0,none⟩),.int .i64 4] ?_);(with_reducible refine (spec_l1Below.calls g s0_0 x1001_20 x1002_20 4 t160 t161 t162 w0 _ ?side1 ?side2 A45.1).mono ?_);(case side1=>exact zB9);(case side2=>exact zB1);rintro e w47 ⟨rfl,hi,hb,hk⟩;refine ⟨_,rfl,?_⟩;replace BK139:=zM (zh hk BK139.1 NB139_0.1);replace BK146:=zM (zh hk BK146.1 NB146_0.1);replace HK:=zM (KeepBut.trans zB2 hk (.inl rfl));replace HB:=zM hb;replace HI0:=zM hi;clear hb hk hi;have hnb48:=NB146_139.1;have hnc48:=NB139_146.1;have hnb49:=NB146_0.1;have hnc49:=NB0_146.1;have hcz50:=zc_5 (w:=w47) BK146.1;have hnb51:=NB139_0.1;have hnc51:=NB0_139.1;have hcz52:=zc_5 (w:=w47) BK139.1))
      refine bodyPost_ret (results_cell_row rfl _ _ gb139 57 #[.int .i64 t143,.int .i64 x147001_3,.int .i64 x147002_20,.int .i64 t160,.int .i64 0] (0,0) _ rfl (by refine zP ?_;refine blk_put (cs:=#[.int .i64 t143,.int .i64 x147001_3,.int .i64 x147002_20,.int .i64 t160,.int .i64 0]) ?_ 4 _ rfl;refine zP ?_;refine blk_put (cs:=#[.int .i64 t143,.int .i64 x147001_3,.int .i64 x147002_20,.int .i64 0,.int .i64 0]) ?_ 3 _ rfl;refine zP ?_;refine blk_put (cs:=#[.int .i64 t143,.int .i64 x147001_3,.int .i64 0,.int .i64 0,.int .i64 0]) ?_ 2 _ rfl;refine zP ?_;refine blk_put (cs:=#[.int .i64 t143,.int .i64 0,.int .i64 0,.int .i64 0,.int .i64 0]) ?_ 1 _ rfl;refine zP ?_;refine blk_put (cs:=#[.int .i64 0,.int .i64 0,.int .i64 0,.int .i64 0,.int .i64 0]) ?_ 0 _ rfl;refine zP ?_;refine blk_far ?_ NB139_146.1 _;refine zP ?_;exact BK139.1) Try.underlying57 rfl (by kernel_rfl)) rfl ?_
      exact ⟨zE,zB9,zB1,zB2⟩
     rw [if_neg c46] at H
     have c46b0:((Go.bits .and .i64 t147 8) == 0)=false:=beq_eq_false_iff_ne.mpr c46
     have c46b1:((Go.bits .and .i64 t147 8) != 0)=true:=bne_iff_ne.mpr c46
     generalize hy163:((([0,1,2,4,8,9,12,20,23]:List Int)):List Int)=y163 at H
     have Ny163:=zM hy163.symm
     clear hy163
     replace H:=zO H
     obtain ⟨⟨t166,t167,t168⟩,A53,H⟩:=H
     try dsimp only at H
     simp only [Option.some.injEq,Prod.mk.injEq] at H
     obtain ⟨rfl,rfl,rfl,rfl,rfl,rfl,rfl⟩:=H
     go_wp2_with (first|((with_reducible refine zG Try.func43 28 #[.pointer (some ⟨g,0,none⟩),.int .i64 4] ?_);(with_reducible refine (spec_l1Below.calls g s0_0 x1001_20 x1002_20 4 t160 t161 t162 w0 _ ?side1 ?side2 A45.1).mono ?_);(case side1=>exact zB9);(case side2=>exact zB1);rintro e w54 ⟨rfl,hi,hb,hk⟩;refine ⟨_,rfl,?_⟩;replace BK139:=zM (zh hk BK139.1 NB139_0.1);replace BK146:=zM (zh hk BK146.1 NB146_0.1);replace HK:=zM (KeepBut.trans zB2 hk (.inl rfl));replace HB:=zM hb;replace HI0:=zM hi;clear hb hk hi;have hnb55:=NB146_139.1;have hnc55:=NB139_146.1;have hnb56:=NB146_0.1;have hnc56:=NB0_146.1;have hcz57:=zc_5 (w:=w54) BK146.1)|((with_reducible refine gate_dst (N:=34) rfl ?_);refine Kd.R_lit (Kd.int .i64) _ 3 ?hg (N:=34) ?hd (xs:=([0,1,2,4,8,9,12,20,23]:List Int)) (inner:=[.int .i64 0,.int .i64 1,.int .i64 2,.int .i64 4,.int .i64 8,.int .i64 9,.int .i64 12,.int .i64 20,.int .i64 23]) (ok:=fun _=>True) (okp:=fun _=>True) ?hr ?hp (fun _ hk=>hk) trivial (Below.refl _ _) (Nat.le_refl _) (by simp) ?_;(case hd=>rfl);(case hg=>rfl);(case hr=>exact zHH);(case hp=>exact (Reps.one (show Kd.M (Kd.int .i64) _ _ _ 0 [.int .i64 0] from rfl) (Reps.one (show Kd.M (Kd.int .i64) _ _ _ 1 [.int .i64 1] from rfl) (Reps.one (show Kd.M (Kd.int .i64) _ _ _ 2 [.int .i64 2] from rfl) (Reps.one (show Kd.M (Kd.int .i64) _ _ _ 4 [.int .i64 4] from rfl) (Reps.one (show Kd.M (Kd.int .i64) _ _ _ 8 [.int .i64 8] from rfl) (Reps.one (show Kd.M (Kd.int .i64) _ _ _ 9 [.int .i64 9] from rfl) (Reps.one (show Kd.M (Kd.int .i64) _ _ _ 12 [.int .i64 12] from rfl) (Reps.one (show Kd.M (Kd.int .i64) _ _ _ 20 [.int .i64 20] from rfl) (Reps.one (show Kd.M (Kd.int .i64) _ _ _ 23 [.int .i64 23] from rfl) (Reps.none _ _)))))))))));intro v164 w58 ho59 hb hg_ hnew_;clear hg_ hnew_;(first|rw [←Ny163.1] at ho59|(simp only [Int.reduceToNat] at ho59;rw [←Ny163.1] at ho59));have HO165:=zM (Kd.R_lower ho59 (keep_size (w:=w) (g:=g) (row:=none) zB2));replace BK139:=zM (zf BK139.1 hb);replace BK146:=zM (blk_below (g:=gb146) (o:= .cells #[.int .i64 t143,.int .i64 x147001_3,.int .i64 x147002_20,.int .i64 t160,.int .i64 0] 57 (0,0)) (by refine zP ?_;refine blk_put (cs:=#[.int .i64 t143,.int .i64 x147001_3,.int .i64 x147002_20,.int .i64 0,.int .i64 0]) ?_ 3 _ rfl;refine zP ?_;exact BK146.1) hb);replace HK:=zM (KeepBut.trans zB2 (KeepBut.of_below hb g none) (.inl rfl));replace HB:=zM (below_step zB1 hb);replace HI0:=zM (IsS104.below (show IsS104 w0 (w54.setCell ⟨gb146,3,none⟩ (.int .i64 t160)) g s0_0 t161 t162 from zB9) hb);clear hb ho59;obtain ⟨Ao60,co60,eo60⟩:=Kd.R_slice HO165.1;subst eo60)|((with_reducible refine zG Try.func84 35 #[.pointer (some ⟨g,0,none⟩),.slice Ao60 y163.length co60] ?_);(with_reducible refine (spec_l1PickInt.calls g s0_0 t161 t162 _ _ y163 t166 t167 t168 w0 _ ?side1 ?side2 ?side3 ?side4 ?side5 A53.1).mono ?_);(case side1=>exact zB9);(case side2=>exact zB1);(case side3=>exact zC (Kd.R_reads' HO165.1).2.2);(case side4=>exact (Kd.R_reads' HO165.1).2.1);(case side5=>exact far_slice (IsS104.own_ne HI0.1 HO165.1 (by decide)));rintro e w61 ⟨rfl,hi,hb,hk⟩;refine ⟨_,rfl,?_⟩;replace BK139:=zM (zh hk BK139.1 NB139_0.1);replace BK146:=zM (zh hk BK146.1 NB146_0.1);replace HO165:=zM (Kd.R_mono (Kd.R_keep (IsS104.apart (show IsS104 w0 _ g s0_0 t161 t162 from zB9) (zR HO165.1) (by decide)) hk (fun _ h=>h.2)) (fun _ h=>h.1));replace HK:=zM (KeepBut.trans zB2 hk (.inl rfl));replace HB:=zM hb;replace HI0:=zM hi;clear hb hk hi;have hcz62:=zc_5 (w:=w61) BK146.1;have hnb63:=NB139_0.1;have hnc63:=NB0_139.1;have hcz64:=zc_5 (w:=w61) BK139.1))
     refine bodyPost_ret (results_cell_row rfl _ _ gb139 57 #[.int .i64 t143,.int .i64 x147001_3,.int .i64 x147002_20,.int .i64 t160,.int .i64 t166] (0,0) _ rfl (by refine zP ?_;refine blk_put (cs:=#[.int .i64 t143,.int .i64 x147001_3,.int .i64 x147002_20,.int .i64 t160,.int .i64 0]) ?_ 4 _ rfl;refine zP ?_;refine blk_put (cs:=#[.int .i64 t143,.int .i64 x147001_3,.int .i64 x147002_20,.int .i64 0,.int .i64 0]) ?_ 3 _ rfl;refine zP ?_;refine blk_put (cs:=#[.int .i64 t143,.int .i64 x147001_3,.int .i64 0,.int .i64 0,.int .i64 0]) ?_ 2 _ rfl;refine zP ?_;refine blk_put (cs:=#[.int .i64 t143,.int .i64 0,.int .i64 0,.int .i64 0,.int .i64 0]) ?_ 1 _ rfl;refine zP ?_;refine blk_put (cs:=#[.int .i64 0,.int .i64 0,.int .i64 0,.int .i64 0,.int .i64 0]) ?_ 0 _ rfl;refine zP ?_;refine blk_far ?_ NB139_146.1 _;refine zP ?_;exact BK139.1) Try.underlying57 rfl (by kernel_rfl)) rfl ?_
     exact ⟨zE,zB9,zB1,zB2⟩

/-! ### spec_l9DrawMem: function 72 -/
mutual
def spec_l9DrawMem.l0:Nat→List Int→Int→List Int→Int→Int→Option (List Int×Int×Int)
 |0,_,_,_,_,_=>none
 |k+1,x3,x4,x1000,x1001,x1002=>if x4<24 then ((spec_l8DrawIns.f k x1000 x1001 x1002).bind fun bt172=>((spec_Code.f bt172.1 bt172.2.1 bt172.2.2.1 bt172.2.2.2.1 bt172.2.2.2.2.1).bind fun bt179=>(if x4>15 then ((spec_l1PickInt.f x1000 bt172.2.2.2.2.2.1 bt172.2.2.2.2.2.2 (([0,1,5,65535]:List Int))).bind fun bt184=>(if x3.length<17592186044416 then (spec_l9DrawMem.l0 k (x3++[bt184.1]) (wrap64 (x4+1)) x1000 bt184.2.1 bt184.2.2) else (none))) else ((spec_l1Once.f x1000 bt172.2.2.2.2.2.1 bt172.2.2.2.2.2.2 9).bind fun bt190=>(if bt190.1=true then ((spec_l1PickInt.f x1000 bt190.2.1 bt190.2.2 (([0,1,5,65535]:List Int))).bind fun bt196=>(if x3.length<17592186044416 then (spec_l9DrawMem.l0 k (x3++[bt196.1]) (wrap64 (x4+1)) x1000 bt196.2.1 bt196.2.2) else (none))) else (if x3.length<17592186044416 then (spec_l9DrawMem.l0 k (x3++[bt179.1]) (wrap64 (x4+1)) x1000 bt190.2.1 bt190.2.2) else (none))))))) else ((spec_l1Below.f x1000 x1001 x1002 4).bind fun bt205=>(if bt205.1=0 then (spec_l9DrawMem.l1 k x3 (([(⟨1,1,0,0,1⟩:S57),(⟨6,2,0,1,20⟩:S57),(⟨10,3,2,1,0⟩:S57),(⟨8,0,0,0,1⟩:S57)]:List (S57))) 0 x1000 bt205.2.1 bt205.2.2) else (if bt205.1=1 then (spec_l9DrawMem.l2 k x3 (([(⟨4,1,0,0,8⟩:S57),(⟨3,1,1,0,1⟩:S57),(⟨5,0,0,1,8⟩:S57),(⟨8,0,0,0,8⟩:S57)]:List (S57))) 0 x1000 bt205.2.1 bt205.2.2) else (some (x3,bt205.2.1,bt205.2.2)))))
def spec_l9DrawMem.l1:Nat→List Int→List (S57)→Int→List Int→Int→Int→Option (List Int×Int×Int)
 |0,_,_,_,_,_,_=>none
 |k+1,x3,x7,x8,x1000,x1001,x1002=>if x8<(x7.length:Int) then (if 0≤x8 then ((spec_Code.f ((rd_T57 x7 x8).f0) ((rd_T57 x7 x8).f1) ((rd_T57 x7 x8).f2) ((rd_T57 x7 x8).f3) ((rd_T57 x7 x8).f4)).bind fun bt212=>(if x8<(x3.length:Int) then (spec_l9DrawMem.l1 k (x3.set (x8:Int).toNat bt212.1) x7 (wrap64 (x8+1)) x1000 x1001 x1002) else (none))) else (none)) else (some (x3,x1001,x1002))
def spec_l9DrawMem.l2:Nat→List Int→List (S57)→Int→List Int→Int→Int→Option (List Int×Int×Int)
 |0,_,_,_,_,_,_=>none
 |k+1,x3,x9,x10,x1000,x1001,x1002=>if x10<(x9.length:Int) then (if 0≤x10 then ((spec_Code.f ((rd_T57 x9 x10).f0) ((rd_T57 x9 x10).f1) ((rd_T57 x9 x10).f2) ((rd_T57 x9 x10).f3) ((rd_T57 x9 x10).f4)).bind fun bt219=>(if x10<(x3.length:Int) then (spec_l9DrawMem.l2 k (x3.set (x10:Int).toNat bt219.1) x9 (wrap64 (x10+1)) x1000 x1001 x1002) else (none))) else (none)) else (some (x3,x1001,x1002))
end
def spec_l9DrawMem.f (k:Nat) (s0_0:List Int) (s0_1:Int) (s0_2:Int):Option (List Int×Int×Int):=spec_l9DrawMem.l0 k (([]:List Int)) 0 s0_0 s0_1 s0_2
theorem spec_l9DrawMem.mono_l: ∀k,(∀y0 y1 y2 y3 y4,LeO (spec_l9DrawMem.l0 k y0 y1 y2 y3 y4) (spec_l9DrawMem.l0 (k+1) y0 y1 y2 y3 y4))∧(∀y0 y1 y2 y3 y4 y5,LeO (spec_l9DrawMem.l1 k y0 y1 y2 y3 y4 y5) (spec_l9DrawMem.l1 (k+1) y0 y1 y2 y3 y4 y5))∧(∀y0 y1 y2 y3 y4 y5,LeO (spec_l9DrawMem.l2 k y0 y1 y2 y3 y4 y5) (spec_l9DrawMem.l2 (k+1) y0 y1 y2 y3 y4 y5))
 |0=>⟨fun _ _ _ _ _ r h=>by simp [spec_l9DrawMem.l0] at h,fun _ _ _ _ _ _ r h=>by simp [spec_l9DrawMem.l1] at h,fun _ _ _ _ _ _ r h=>by simp [spec_l9DrawMem.l2] at h⟩
 |k+1=>by
  obtain ⟨ih0,ih1,ih2⟩:=spec_l9DrawMem.mono_l k
  refine ⟨?_,?_,?_⟩
  ·intros
   unfold spec_l9DrawMem.l0
   have mo0:=@spec_l8DrawIns.mono
   exact zL
  ·intros
   unfold spec_l9DrawMem.l1
   have mo0:=@spec_l8DrawIns.mono
   exact zL
  ·intros
   unfold spec_l9DrawMem.l2
   have mo0:=@spec_l8DrawIns.mono
   exact zL
theorem spec_l9DrawMem.mono: ∀a0 a1 a2 k,LeO (spec_l9DrawMem.f k a0 a1 a2) (spec_l9DrawMem.f (k+1) a0 a1 a2):=by
 intro a0 a1 a2 k
 obtain ⟨ih0,ih1,ih2⟩:=spec_l9DrawMem.mono_l k
 unfold spec_l9DrawMem.f
 have mo0:=@spec_l8DrawIns.mono
 exact zL
theorem spec_l9DrawMem.calls (k:Nat) (g:Nat) (s0_0:List Int) (s0_1:Int) (s0_2:Int) (r1:List Int) (r2:Int) (r3:Int) (w0 w:World) (hI:IsS104 w0 w g s0_0 s0_1 s0_2) (hB:Below w0.heap.size w0 w) (h:spec_l9DrawMem.f k s0_0 s0_1 s0_2=some (r1,r2,r3)):
  Calls Try.prog 72 #[.pointer (some ⟨g,0,none⟩)] w fun e w'=>∃v0_:Value,e= .returned (v0_)∧Kd.R (Kd.int .i64) 3 w' w.heap.size (fun _=>True) v0_ r1∧IsS104 w0 w' g s0_0 r2 r3∧Below w0.heap.size w0 w'∧KeepBut w w' g none:=by
 have hu57:=Try.underlying57
 have HI0:=zM hI
 have HK:=zM (KeepBut.refl w g none)
 have HL:=zM hB.size
 clear hI
 have HW0:=zM hB.size
 have HB:=zM hB
 clear hB
 unfold spec_l9DrawMem.f at h
 have H:=h
 clear h
 generalize hy169:((([]:List Int)):List Int)=y169 at H
 have Ny169:=zM hy169.symm
 clear hy169
 have H':=zM H
 clear H
 go_enter Try.func72,Try.ntmps72
 go_wp2_with (first|((with_reducible refine gate_dst (N:=11) rfl ?_);refine Kd.R_lit (Kd.int .i64) _ 3 ?hg (N:=11) ?hd (xs:=([]:List Int)) (inner:=[]) (ok:=fun _=>True) (okp:=fun _=>True) ?hr ?hp (fun _ hk=>hk) trivial (Below.refl _ _) (Nat.le_refl _) (by simp) ?_;(case hd=>rfl);(case hg=>rfl);(case hr=>exact zHH);(case hp=>exact (Reps.none _ _));intro v170 w2 ho3 hb hg_ hnew_;clear hg_ hnew_;(first|rw [←Ny169.1] at ho3|(simp only [Int.reduceToNat] at ho3;rw [←Ny169.1] at ho3));have HO171:=zM (Kd.R_lower ho3 (keep_size (w:=w) (g:=g) (row:=none) zB2));replace HK:=zM (KeepBut.trans zB2 (KeepBut.of_below hb g none) (.inl rfl));replace HB:=zM (below_step zB1 hb);replace HI0:=zM (IsS104.below zB0 hb);clear hb ho3))
 go_loopg [3,4] k (fun kq v3 v4 w'=>∃(x3_1:List Int) (x4_1:Int) (x1001_1:Int) (x1002_1:Int),v4= .int .i64 x4_1∧Aside0 (spec_l9DrawMem.l0 kq x3_1 x4_1 s0_0 x1001_1 x1002_1=some (r1,r2,r3))∧Aside0 (kq≤k)∧Aside0 (Kd.R (Kd.int .i64) 3 w' w.heap.size (fun _=>True) v3 x3_1)∧Aside0 (IsS104 w0 w' g s0_0 x1001_1 x1002_1)∧Aside0 (KeepBut w w' g none)∧Aside0 (Below w0.heap.size w0 w'))
 case atStart=>exact ⟨(y169),(0),(s0_1),(s0_2),zJJ,H',⟨Nat.le_refl _⟩,⟨zR HO171.1⟩,⟨zB0⟩,⟨zB2⟩,⟨zB1⟩⟩
 case round=>
  clear H'
  obtain ⟨x3_1,x4_1,x1001_1,x1002_1,rfl,HA,HK1,HO_3,HI0,HK,HB⟩:=hrel
  cases gk with
  |zero=>exact absurd HA.1 (by simp [spec_l9DrawMem.l0])
  |succ k1=>
   have H:=HA.1
   clear HA
   simp only [spec_l9DrawMem.l0] at H
   by_cases c4:x4_1<24
   ·rw [if_pos c4] at H
    have c4b0:=decide_eq_true c4
    clear c4
    replace H:=zO H
    obtain ⟨⟨t172,t173,t174,t175,t176,t177,t178⟩,A5,H⟩:=H
    try dsimp only at H
    replace H:=zO H
    obtain ⟨⟨t179,t180⟩,A6,H⟩:=H
    try dsimp only at H
    by_cases c7:x4_1>15
    ·rw [if_pos c7] at H
     have c7b0:=decide_eq_true c7
     clear c7
     generalize hy181:((([0,1,5,65535]:List Int)):List Int)=y181 at H
     have Ny181:=zM hy181.symm
     clear hy181
     replace H:=zO H
     obtain ⟨⟨t184,t185,t186⟩,A8,H⟩:=H
     try dsimp only at H
     replace H:=zIn H
     obtain ⟨LMc9,H⟩:=H
     generalize hy187:((x3_1++[t184]):List Int)=y187 at H
     have Ny187:=zM hy187.symm
     clear hy187
     have H':=zM H
     clear H
     go_wp2_with (first|((with_reducible refine zG Try.func93 18 #[.pointer (some ⟨g,0,none⟩)] ?_);(with_reducible refine (spec_l8DrawIns.calls k1 g s0_0 x1001_1 x1002_1 t172 t173 t174 t175 t176 t177 t178 w0 _ ?side1 ?side2 A5.1).mono ?_);(case side1=>exact zB0);(case side2=>exact zB1);rintro e w10 ⟨rfl,hi,hb,hk⟩;refine ⟨_,rfl,?_⟩;replace HO_3:=zM (Kd.R_mono (Kd.R_keep (IsS104.apart (show IsS104 w0 _ g s0_0 x1001_1 x1002_1 from zB0) (zR HO_3.1) (by decide)) hk (fun _ h=>h.2)) (fun _ h=>h.1));replace HK:=zM (KeepBut.trans zB2 hk (.inl rfl));replace HB:=zM hb;replace HI0:=zM hi;clear hb hk hi)|((with_reducible refine zG Try.func57 19 #[.agg #[.int .i64 t172,.int .i64 t173,.int .i64 t174,.int .i64 t175,.int .i64 t176]] ?_);(with_reducible refine (spec_Code.calls t172 t173 t174 t175 t176 t179 t180 _ A6.1).mono ?_);rintro e w11 ⟨rfl,hb⟩;refine ⟨_,rfl,?_⟩;replace HO_3:=zM (Kd.R_below (zR HO_3.1) hb);replace HK:=zM (KeepBut.trans zB2 (KeepBut.of_below hb g none) (.inl rfl));replace HB:=zM (below_step zB1 hb);replace HI0:=zM (IsS104.below zB0 hb);clear hb)|((with_reducible refine gate_dst (N:=29) rfl ?_);refine Kd.R_lit (Kd.int .i64) _ 3 ?hg (N:=29) ?hd (xs:=([0,1,5,65535]:List Int)) (inner:=[.int .i64 0,.int .i64 1,.int .i64 5,.int .i64 65535]) (ok:=fun _=>True) (okp:=fun _=>True) ?hr ?hp (fun _ hk=>hk) trivial (Below.refl _ _) (Nat.le_refl _) (by simp) ?_;(case hd=>rfl);(case hg=>rfl);(case hr=>exact zHH);(case hp=>exact (Reps.one (show Kd.M (Kd.int .i64) _ _ _ 0 [.int .i64 0] from rfl) (Reps.one (show Kd.M (Kd.int .i64) _ _ _ 1 [.int .i64 1] from rfl) (Reps.one (show Kd.M (Kd.int .i64) _ _ _ 5 [.int .i64 5] from rfl) (Reps.one (show Kd.M (Kd.int .i64) _ _ _ 65535 [.int .i64 65535] from rfl) (Reps.none _ _))))));intro v182 w12 ho13 hb hg_ hnew_;clear hg_ hnew_;(first|rw [←Ny181.1] at ho13|(simp only [Int.reduceToNat] at ho13;rw [←Ny181.1] at ho13));have HO183:=zM (Kd.R_lower (Kd.R_new' ho13 (Kd.R_lt (zR HO_3.1))) (keep_size (w:=w) (g:=g) (row:=none) zB2));replace HO_3:=zM (Kd.R_elder' (zR HO_3.1) (Kd.R_base ho13) hb);replace HK:=zM (KeepBut.trans zB2 (KeepBut.of_below hb g none) (.inl rfl));replace HB:=zM (below_step zB1 hb);replace HI0:=zM (IsS104.below zB0 hb);clear hb ho13;obtain ⟨Ao14,co14,eo14⟩:=Kd.R_slice HO183.1;subst eo14)|((with_reducible refine zG Try.func84 30 #[.pointer (some ⟨g,0,none⟩),.slice Ao14 y181.length co14] ?_);(with_reducible refine (spec_l1PickInt.calls g s0_0 t177 t178 _ _ y181 t184 t185 t186 w0 _ ?side1 ?side2 ?side3 ?side4 ?side5 A8.1).mono ?_);(case side1=>exact zB0);(case side2=>exact zB1);(case side3=>exact zC (Kd.R_reads' HO183.1).2.2);(case side4=>exact (Kd.R_reads' HO183.1).2.1);(case side5=>exact far_slice (IsS104.own_ne HI0.1 HO183.1 (by decide)));rintro e w15 ⟨rfl,hi,hb,hk⟩;refine ⟨_,rfl,?_⟩;replace HO_3:=zM (Kd.R_mono (Kd.R_keep (IsS104.apart (show IsS104 w0 _ g s0_0 t177 t178 from zB0) (zR HO_3.1) (by decide)) hk (fun _ h=>h.2)) (fun _ h=>h.1));replace HO183:=zM (Kd.R_mono (Kd.R_keep (IsS104.apart (show IsS104 w0 _ g s0_0 t177 t178 from zB0) (zR HO183.1) (by decide)) hk (fun _ h=>h.2)) (fun _ h=>h.1));replace HK:=zM (KeepBut.trans zB2 hk (.inl rfl));replace HB:=zM hb;replace HI0:=zM hi;clear hb hk hi)|((with_reducible refine gate_builtin (b:= .append) (xs:=#[.tmp 31,.tmp 33]) rfl ?_);at_builtin;refine Kd.R_append (Kd.int .i64) w.heap.size rfl (.tmp 31) (.tmp 33) 24 3 (.int .i64 0) 8 rfl Try.underlying24 info3 rfl (by decide) (by omega) u3 x3_1 t184 [.int .i64 t184] (fun k_=>some k_≠(.slice Ao14 y181.length co14:Value).ownBlock) (fun _=>False) rfl rfl ?aP (fun _ hk=>hk.elim) ?aF ?aO (Below.refl _ _) ?aS ?aL ?_;(case aP=>exact rfl);(case aF=>exact (fun k_ hk=>Kd.fresh' (Kd.R_lt (zR HO183.1)) k_ hk));(case aO=>exact (by refine zrR ?_;exact Kd.R_mono HO_3.1 (fun _ hk=>hk.2)));(case aS=>exact (keep_size (w:=w) (g:=g) (row:=none) zB2));(case aL=>have:=LMc9.out;omega);intro v188 w16 ho hb hg hat;rw [←Ny187.1] at ho;replace HO183:=zM (Kd.R_after (ok:=(fun _=>True)) (zR HO183.1) hg hat);replace HB:=zM (below_weaken zB1 HL.1 hb);replace HI0:=zM (IsS104.grown (show IsS104 w0 _ g s0_0 t185 t186 from zB0) hg (IsS104.own_ne HI0.1 HO_3.1 (by decide)));replace HK:=zM (KeepBut.trans zB2 (KeepBut.of_grown hg g) (Kd.R_base2 HO_3.1));have HO189:=zM ho;clear HO_3;clear ho hb hg hat))
     go_roundg k1
     case measure=>have:=HK1.1;omega
     case rel=>exact ⟨(y187),(wrap64 (x4_1+1)),(t185),(t186),zJJ,H',⟨by have:=HK1.1;omega⟩,⟨by refine zrR ?_;exact Kd.R_mono HO189.1 (fun _ hk=>trivial)⟩,⟨zB0⟩,⟨zB2⟩,⟨zB1⟩⟩
    rw [if_neg c7] at H
    have c7b0:=decide_eq_false c7
    clear c7
    replace H:=zO H
    obtain ⟨⟨t190,t191,t192⟩,A17,H⟩:=H
    try dsimp only at H
    by_cases c18:t190=true
    rotate_left
    ·replace c18:=Bool.eq_false_iff.mpr c18
     subst c18
     rw [if_neg zF] at H
     replace H:=zIn H
     obtain ⟨LMc29,H⟩:=H
     generalize hy202:((x3_1++[t179]):List Int)=y202 at H
     have Ny202:=zM hy202.symm
     clear hy202
     have H':=zM H
     clear H
     go_wp2_with (first|((with_reducible refine zG Try.func93 18 #[.pointer (some ⟨g,0,none⟩)] ?_);(with_reducible refine (spec_l8DrawIns.calls k1 g s0_0 x1001_1 x1002_1 t172 t173 t174 t175 t176 t177 t178 w0 _ ?side1 ?side2 A5.1).mono ?_);(case side1=>exact zB0);(case side2=>exact zB1);rintro e w30 ⟨rfl,hi,hb,hk⟩;refine ⟨_,rfl,?_⟩;replace HO_3:=zM (Kd.R_mono (Kd.R_keep (IsS104.apart (show IsS104 w0 _ g s0_0 x1001_1 x1002_1 from zB0) (zR HO_3.1) (by decide)) hk (fun _ h=>h.2)) (fun _ h=>h.1));replace HK:=zM (KeepBut.trans zB2 hk (.inl rfl));replace HB:=zM hb;replace HI0:=zM hi;clear hb hk hi)|((with_reducible refine zG Try.func57 19 #[.agg #[.int .i64 t172,.int .i64 t173,.int .i64 t174,.int .i64 t175,.int .i64 t176]] ?_);(with_reducible refine (spec_Code.calls t172 t173 t174 t175 t176 t179 t180 _ A6.1).mono ?_);rintro e w31 ⟨rfl,hb⟩;refine ⟨_,rfl,?_⟩;replace HO_3:=zM (Kd.R_below (zR HO_3.1) hb);replace HK:=zM (KeepBut.trans zB2 (KeepBut.of_below hb g none) (.inl rfl));replace HB:=zM (below_step zB1 hb);replace HI0:=zM (IsS104.below zB0 hb);clear hb)|(go_at_call 41;(with_reducible refine (spec_l1Once.calls g s0_0 t177 t178 9 false t191 t192 w0 _ ?side1 ?side2 A17.1).mono ?_);(case side1=>exact zB0);(case side2=>exact zB1);rintro e w32 ⟨rfl,hi,hb,hk⟩;replace HO_3:=zM (Kd.R_mono (Kd.R_keep (IsS104.apart (show IsS104 w0 _ g s0_0 t177 t178 from zB0) (zR HO_3.1) (by decide)) hk (fun _ h=>h.2)) (fun _ h=>h.1));replace HK:=zM (KeepBut.trans zB2 hk (.inl rfl));replace HB:=zM hb;replace HI0:=zM hi;clear hb hk hi)|((with_reducible refine gate_builtin (b:= .append) (xs:=#[.tmp 31,.tmp 33]) rfl ?_);at_builtin;refine Kd.R_append (Kd.int .i64) w.heap.size rfl (.tmp 31) (.tmp 33) 24 3 (.int .i64 0) 8 rfl Try.underlying24 info3 rfl (by decide) (by omega) u3 x3_1 t179 [.int .i64 t179] (fun _=>True) (fun _=>False) rfl rfl ?aP (fun _ hk=>hk.elim) ?aF ?aO (Below.refl _ _) ?aS ?aL ?_;(case aP=>exact rfl);(case aF=>exact (fun _ _=>trivial));(case aO=>exact (zR HO_3.1));(case aS=>exact (keep_size (w:=w) (g:=g) (row:=none) zB2));(case aL=>have:=LMc29.out;omega);intro v203 w33 ho hb hg hat;rw [←Ny202.1] at ho;replace HB:=zM (below_weaken zB1 HL.1 hb);replace HI0:=zM (IsS104.grown (show IsS104 w0 _ g s0_0 t191 t192 from zB0) hg (IsS104.own_ne HI0.1 HO_3.1 (by decide)));replace HK:=zM (KeepBut.trans zB2 (KeepBut.of_grown hg g) (Kd.R_base2 HO_3.1));have HO204:=zM ho;clear HO_3;clear ho hb hg hat))
     go_roundg k1
     case measure=>have:=HK1.1;omega
     case rel=>exact ⟨(y202),(wrap64 (x4_1+1)),(t191),(t192),zJJ,H',⟨by have:=HK1.1;omega⟩,⟨zR HO204.1⟩,⟨zB0⟩,⟨zB2⟩,⟨zB1⟩⟩
    subst c18
    rw [if_pos rfl] at H
    generalize hy193:((([0,1,5,65535]:List Int)):List Int)=y193 at H
    have Ny193:=zM hy193.symm
    clear hy193
    replace H:=zO H
    obtain ⟨⟨t196,t197,t198⟩,A19,H⟩:=H
    try dsimp only at H
    replace H:=zIn H
    obtain ⟨LMc20,H⟩:=H
    generalize hy199:((x3_1++[t196]):List Int)=y199 at H
    have Ny199:=zM hy199.symm
    clear hy199
    have H':=zM H
    clear H
    go_wp2_with (first|((with_reducible refine zG Try.func93 18 #[.pointer (some ⟨g,0,none⟩)] ?_);(with_reducible refine (spec_l8DrawIns.calls k1 g s0_0 x1001_1 x1002_1 t172 t173 t174 t175 t176 t177 t178 w0 _ ?side1 ?side2 A5.1).mono ?_);(case side1=>exact zB0);(case side2=>exact zB1);rintro e w21 ⟨rfl,hi,hb,hk⟩;refine ⟨_,rfl,?_⟩;replace HO_3:=zM (Kd.R_mono (Kd.R_keep (IsS104.apart (show IsS104 w0 _ g s0_0 x1001_1 x1002_1 from zB0) (zR HO_3.1) (by decide)) hk (fun _ h=>h.2)) (fun _ h=>h.1));replace HK:=zM (KeepBut.trans zB2 hk (.inl rfl));replace HB:=zM hb;replace HI0:=zM hi;clear hb hk hi)|((with_reducible refine zG Try.func57 19 #[.agg #[.int .i64 t172,.int .i64 t173,.int .i64 t174,.int .i64 t175,.int .i64 t176]] ?_);(with_reducible refine (spec_Code.calls t172 t173 t174 t175 t176 t179 t180 _ A6.1).mono ?_);rintro e w22 ⟨rfl,hb⟩;refine ⟨_,rfl,?_⟩;replace HO_3:=zM (Kd.R_below (zR HO_3.1) hb);replace HK:=zM (KeepBut.trans zB2 (KeepBut.of_below hb g none) (.inl rfl));replace HB:=zM (below_step zB1 hb);replace HI0:=zM (IsS104.below zB0 hb);clear hb)|(go_at_call 41;(with_reducible refine (spec_l1Once.calls g s0_0 t177 t178 9 true t191 t192 w0 _ ?side1 ?side2 A17.1).mono ?_);(case side1=>exact zB0);(case side2=>exact zB1);rintro e w23 ⟨rfl,hi,hb,hk⟩;replace HO_3:=zM (Kd.R_mono (Kd.R_keep (IsS104.apart (show IsS104 w0 _ g s0_0 t177 t178 from zB0) (zR HO_3.1) (by decide)) hk (fun _ h=>h.2)) (fun _ h=>h.1));replace HK:=zM (KeepBut.trans zB2 hk (.inl rfl));replace HB:=zM hb;replace HI0:=zM hi;clear hb hk hi)|((with_reducible refine gate_dst (N:=29) rfl ?_);refine Kd.R_lit (Kd.int .i64) _ 3 ?hg (N:=29) ?hd (xs:=([0,1,5,65535]:List Int)) (inner:=[.int .i64 0,.int .i64 1,.int .i64 5,.int .i64 65535]) (ok:=fun _=>True) (okp:=fun _=>True) ?hr ?hp (fun _ hk=>hk) trivial (Below.refl _ _) (Nat.le_refl _) (by simp) ?_;(case hd=>rfl);(case hg=>rfl);(case hr=>exact zHH);(case hp=>exact (Reps.one (show Kd.M (Kd.int .i64) _ _ _ 0 [.int .i64 0] from rfl) (Reps.one (show Kd.M (Kd.int .i64) _ _ _ 1 [.int .i64 1] from rfl) (Reps.one (show Kd.M (Kd.int .i64) _ _ _ 5 [.int .i64 5] from rfl) (Reps.one (show Kd.M (Kd.int .i64) _ _ _ 65535 [.int .i64 65535] from rfl) (Reps.none _ _))))));intro v194 w24 ho25 hb hg_ hnew_;clear hg_ hnew_;(first|rw [←Ny193.1] at ho25|(simp only [Int.reduceToNat] at ho25;rw [←Ny193.1] at ho25));have HO195:=zM (Kd.R_lower (Kd.R_new' ho25 (Kd.R_lt (zR HO_3.1))) (keep_size (w:=w) (g:=g) (row:=none) zB2));replace HO_3:=zM (Kd.R_elder' (zR HO_3.1) (Kd.R_base ho25) hb);replace HK:=zM (KeepBut.trans zB2 (KeepBut.of_below hb g none) (.inl rfl));replace HB:=zM (below_step zB1 hb);replace HI0:=zM (IsS104.below zB0 hb);clear hb ho25;obtain ⟨Ao26,co26,eo26⟩:=Kd.R_slice HO195.1;subst eo26)|((with_reducible refine zG Try.func84 30 #[.pointer (some ⟨g,0,none⟩),.slice Ao26 y193.length co26] ?_);(with_reducible refine (spec_l1PickInt.calls g s0_0 t191 t192 _ _ y193 t196 t197 t198 w0 _ ?side1 ?side2 ?side3 ?side4 ?side5 A19.1).mono ?_);(case side1=>exact zB0);(case side2=>exact zB1);(case side3=>exact zC (Kd.R_reads' HO195.1).2.2);(case side4=>exact (Kd.R_reads' HO195.1).2.1);(case side5=>exact far_slice (IsS104.own_ne HI0.1 HO195.1 (by decide)));rintro e w27 ⟨rfl,hi,hb,hk⟩;refine ⟨_,rfl,?_⟩;replace HO_3:=zM (Kd.R_mono (Kd.R_keep (IsS104.apart (show IsS104 w0 _ g s0_0 t191 t192 from zB0) (zR HO_3.1) (by decide)) hk (fun _ h=>h.2)) (fun _ h=>h.1));replace HO195:=zM (Kd.R_mono (Kd.R_keep (IsS104.apart (show IsS104 w0 _ g s0_0 t191 t192 from zB0) (zR HO195.1) (by decide)) hk (fun _ h=>h.2)) (fun _ h=>h.1));replace HK:=zM (KeepBut.trans zB2 hk (.inl rfl));replace HB:=zM hb;replace HI0:=zM hi;clear hb hk hi)|((with_reducible refine gate_builtin (b:= .append) (xs:=#[.tmp 31,.tmp 33]) rfl ?_);at_builtin;refine Kd.R_append (Kd.int .i64) w.heap.size rfl (.tmp 31) (.tmp 33) 24 3 (.int .i64 0) 8 rfl Try.underlying24 info3 rfl (by decide) (by omega) u3 x3_1 t196 [.int .i64 t196] (fun k_=>some k_≠(.slice Ao26 y193.length co26:Value).ownBlock) (fun _=>False) rfl rfl ?aP (fun _ hk=>hk.elim) ?aF ?aO (Below.refl _ _) ?aS ?aL ?_;(case aP=>exact rfl);(case aF=>exact (fun k_ hk=>Kd.fresh' (Kd.R_lt (zR HO195.1)) k_ hk));(case aO=>exact (by refine zrR ?_;exact Kd.R_mono HO_3.1 (fun _ hk=>hk.2)));(case aS=>exact (keep_size (w:=w) (g:=g) (row:=none) zB2));(case aL=>have:=LMc20.out;omega);intro v200 w28 ho hb hg hat;rw [←Ny199.1] at ho;replace HO195:=zM (Kd.R_after (ok:=(fun _=>True)) (zR HO195.1) hg hat);replace HB:=zM (below_weaken zB1 HL.1 hb);replace HI0:=zM (IsS104.grown (show IsS104 w0 _ g s0_0 t197 t198 from zB0) hg (IsS104.own_ne HI0.1 HO_3.1 (by decide)));replace HK:=zM (KeepBut.trans zB2 (KeepBut.of_grown hg g) (Kd.R_base2 HO_3.1));have HO201:=zM ho;clear HO_3;clear ho hb hg hat))
    go_roundg k1
    case measure=>have:=HK1.1;omega
    case rel=>exact ⟨(y199),(wrap64 (x4_1+1)),(t197),(t198),zJJ,H',⟨by have:=HK1.1;omega⟩,⟨by refine zrR ?_;exact Kd.R_mono HO201.1 (fun _ hk=>trivial)⟩,⟨zB0⟩,⟨zB2⟩,⟨zB1⟩⟩
   rw [if_neg c4] at H
   have c4b0:=decide_eq_false c4
   clear c4
   replace H:=zO H
   obtain ⟨⟨t205,t206,t207⟩,A34,H⟩:=H
   try dsimp only at H
   by_cases c35:t205=0
   ·rw [if_pos c35] at H
    have c35b0:(t205 == 0)=true:=beq_iff_eq.mpr c35
    have c35b1:(t205 != 0)=false:=bne_eq_false_iff_eq.mpr c35
    clear c35
    generalize hy208:((([(⟨1,1,0,0,1⟩:S57),(⟨6,2,0,1,20⟩:S57),(⟨10,3,2,1,0⟩:S57),(⟨8,0,0,0,1⟩:S57)]:List (S57))):List (S57))=y208 at H
    have Ny208:=zM hy208.symm
    clear hy208
    have H':=zM H
    clear H
    go_wp2_with (first|((with_reducible refine zG Try.func43 36 #[.pointer (some ⟨g,0,none⟩),.int .i64 4] ?_);(with_reducible refine (spec_l1Below.calls g s0_0 x1001_1 x1002_1 4 t205 t206 t207 w0 _ ?side1 ?side2 A34.1).mono ?_);(case side1=>exact zB0);(case side2=>exact zB1);rintro e w36 ⟨rfl,hi,hb,hk⟩;refine ⟨_,rfl,?_⟩;replace HO_3:=zM (Kd.R_mono (Kd.R_keep (IsS104.apart (show IsS104 w0 _ g s0_0 x1001_1 x1002_1 from zB0) (zR HO_3.1) (by decide)) hk (fun _ h=>h.2)) (fun _ h=>h.1));replace HK:=zM (KeepBut.trans zB2 hk (.inl rfl));replace HB:=zM hb;replace HI0:=zM hi;clear hb hk hi)|((with_reducible refine gate_dst (N:=43) rfl ?_);refine Kd.R_lit k57 _ 57 ?hg (N:=43) ?hd (xs:=([(⟨1,1,0,0,1⟩:S57),(⟨6,2,0,1,20⟩:S57),(⟨10,3,2,1,0⟩:S57),(⟨8,0,0,0,1⟩:S57)]:List (S57))) (inner:=[.int .i64 1,.int .i64 1,.int .i64 0,.int .i64 0,.int .i64 1,.int .i64 6,.int .i64 2,.int .i64 0,.int .i64 1,.int .i64 20,.int .i64 10,.int .i64 3,.int .i64 2,.int .i64 1,.int .i64 0,.int .i64 8,.int .i64 0,.int .i64 0,.int .i64 0,.int .i64 1]) (ok:=fun _=>True) (okp:=fun _=>True) ?hr ?hp (fun _ hk=>hk) trivial (Below.refl _ _) (Nat.le_refl _) (by simp) ?_;(case hd=>rfl);(case hg=>rfl);(case hr=>exact zHH);(case hp=>exact (Reps.c5 (show Kd.M k57 _ _ _ (⟨1,1,0,0,1⟩:S57) [.int .i64 1,.int .i64 1,.int .i64 0,.int .i64 0,.int .i64 1] from (k57_mkM _ _ _ (⟨1,1,0,0,1⟩:S57))) (Reps.c5 (show Kd.M k57 _ _ _ (⟨6,2,0,1,20⟩:S57) [.int .i64 6,.int .i64 2,.int .i64 0,.int .i64 1,.int .i64 20] from (k57_mkM _ _ _ (⟨6,2,0,1,20⟩:S57))) (Reps.c5 (show Kd.M k57 _ _ _ (⟨10,3,2,1,0⟩:S57) [.int .i64 10,.int .i64 3,.int .i64 2,.int .i64 1,.int .i64 0] from (k57_mkM _ _ _ (⟨10,3,2,1,0⟩:S57))) (Reps.c5 (show Kd.M k57 _ _ _ (⟨8,0,0,0,1⟩:S57) [.int .i64 8,.int .i64 0,.int .i64 0,.int .i64 0,.int .i64 1] from (k57_mkM _ _ _ (⟨8,0,0,0,1⟩:S57))) (Reps.none _ _))))));intro v209 w37 ho38 hb hg_ hnew_;clear hg_ hnew_;(first|rw [←Ny208.1] at ho38|(simp only [Int.reduceToNat] at ho38;rw [←Ny208.1] at ho38));replace HO_3:=zM (Kd.R_below (zR HO_3.1) hb);have HO210:=zM (Kd.R_lower ho38 (keep_size (w:=w) (g:=g) (row:=none) zB2));replace HK:=zM (KeepBut.trans zB2 (KeepBut.of_below hb g none) (.inl rfl));replace HB:=zM (below_step zB1 hb);replace HI0:=zM (IsS104.below zB0 hb);clear hb ho38))
    go_loopg [8] k1 (fun kq v8 w'=>∃(x3_2:List Int) (x8_2:Int),v8= .int .i64 x8_2∧Aside0 (spec_l9DrawMem.l1 kq x3_2 y208 x8_2 s0_0 t206 t207=some (r1,r2,r3))∧Aside0 (kq≤k1)∧Aside0 (Kd.R (Kd.int .i64) 3 w' w.heap.size (fun _=>True) u3 x3_2)∧Aside0 (Kd.R k57 57 w' w.heap.size (fun _=>True) v209 y208)∧Aside0 (IsS104 w0 w' g s0_0 t206 t207)∧Aside0 (KeepBut w w' g none)∧Aside0 (Below w0.heap.size w0 w'))
    case atStart=>exact ⟨(x3_1),(0),zJJ,H',⟨Nat.le_refl _⟩,⟨zR HO_3.1⟩,⟨zR HO210.1⟩,⟨zB0⟩,⟨zB2⟩,⟨zB1⟩⟩
    case round=>
     clear H'
     obtain ⟨x3_2,x8_2,rfl,HA,HK2,HO_3,HO_7,HI0,HK,HB⟩:=hrel
     cases gk with
     |zero=>exact absurd HA.1 (by simp [spec_l9DrawMem.l1])
     |succ k2=>
      have H:=HA.1
      clear HA
      simp only [spec_l9DrawMem.l1] at H
      by_cases c39:x8_2<(y208.length:Int)
      rotate_left
      ·rw [if_neg c39] at H
       have c39b0:=decide_eq_false c39
       clear c39
       simp only [Option.some.injEq,Prod.mk.injEq] at H
       obtain ⟨rfl,rfl,rfl⟩:=H
       obtain ⟨Ao48,co48,eo48⟩:=Kd.R_slice HO_7.1
       subst eo48
       go_wp2
       go_ret
       exact ⟨_,zE,zR HO_3.1,zB0,zB1,zB2⟩
      rw [if_pos c39] at H
      have c39b0:=decide_eq_true c39
      clear c39
      replace H:=zIt H
      obtain ⟨c40b0,H⟩:=H
      replace H:=zO H
      obtain ⟨⟨t212,t213⟩,A41,H⟩:=H
      try dsimp only at H
      replace H:=zIt H
      obtain ⟨c42b0,H⟩:=H
      generalize hy214:((x3_2.set (x8_2:Int).toNat t212):List Int)=y214 at H
      have Ny214:=zM hy214.symm
      clear hy214
      have H':=zM H
      clear H
      obtain ⟨Ao44,co44,eo44⟩:=Kd.R_slice HO_7.1
      subst eo44
      obtain ⟨p211,q211,ad211,e211,hx211_0,hx211_1,hx211_2,hx211_3,hx211_4⟩:=zRd (at_T57 (Kd.R_reads' HO_7.1).2.2 x8_2)
      cases e211
      go_wp2_with (first|((with_reducible refine zG Try.func57 57 #[.agg #[.int .i64 ((rd_T57 y208 x8_2).f0),.int .i64 ((rd_T57 y208 x8_2).f1),.int .i64 ((rd_T57 y208 x8_2).f2),.int .i64 ((rd_T57 y208 x8_2).f3),.int .i64 ((rd_T57 y208 x8_2).f4)]] ?_);(with_reducible refine (spec_Code.calls ((rd_T57 y208 x8_2).f0) ((rd_T57 y208 x8_2).f1) ((rd_T57 y208 x8_2).f2) ((rd_T57 y208 x8_2).f3) ((rd_T57 y208 x8_2).f4) t212 t213 _ A41.1).mono ?_);rintro e w45 ⟨rfl,hb⟩;refine ⟨_,rfl,?_⟩;replace HO_3:=zM (Kd.R_below (zR HO_3.1) hb);replace HO_7:=zM (Kd.R_below (zR HO_7.1) hb);replace HK:=zM (KeepBut.trans zB2 (KeepBut.of_below hb g none) (.inl rfl));replace HB:=zM (below_step zB1 hb);replace HI0:=zM (IsS104.below zB0 hb);clear hb;have p43:0≤(x8_2:Int):=zA;have q43:(x8_2:Int)<((x3_2.length:Int):Int):=zA;obtain ⟨go43,co43,eo43,gb43,gl43,cl43,HG43⟩:=Kd.R_form HO_3.1 (by omega);(first|cases eo43|(injection eo43 with ea_ en_ ec_;(first|subst ea_|(injection ea_ with ea_;subst ea_));subst ec_;clear en_));have GB43:=zM gb43;have GG43:=zM HG43;clear gb43 gl43 HG43;obtain ⟨hx43_0,hf43_0⟩:=Kd.R_celln 0 HO_3.1 (x8_2:Int) p43 q43;replace p43:=eq_true p43;replace q43:=eq_true q43;obtain ⟨hy46_,hz46_⟩:=Kd.R_celln 0 HO_3.1 (x8_2:Int) zA zA;have HP46:=Kd.R_putg HO_3.1 (x8_2:Int) t212)|((with_reducible refine gate_store (t:=3) (p:=60) rfl ?_);refine store_event (t:=3) (p:=60) (v:=?vo_w47) (w1:=(w45.setCell ⟨go43,(x8_2:Int).toNat,none⟩ (.int .i64 t212))) ?hg ?ho ?hn ?hr ?_;(case ho=>rfl);(case hg=>rfl);(case hn=>rfl);(case hr=>exact zHH);intro w47 hw;have hg:w45.grownBy w47 (some go43):=(by rw [hw];exact HP46.2);have hp_:Kd.R (Kd.int .i64) 3 w47 w.heap.size (fun _=>True) (.slice (some ⟨go43,0,none⟩) x3_2.length co43) y214:=(by rw [hw,Ny214.1];exact HP46.1);clear HP46;replace HO_7:=zM (Kd.R_over' (v:=(.slice (some ⟨go43,0,none⟩) x3_2.length co43)) (zR HO_7.1) (Kd.R_typed HO_3.1) (by decide) hg);replace HI0:=zM (IsS104.grown zB0 hg (IsS104.own_ne HI0.1 HO_3.1 (by decide)));replace HB:=zM ((by rw [hw];exact below_set (HB.1) (Nat.le_trans HL.1 GB43.1):Below w0.heap.size w0 w47));replace HK:=zM (KeepBut.trans zB2 (KeepBut.of_grown hg g) (Kd.R_base2 HO_3.1));replace HO_3:=zM hp_;clear hg hw hp_))
      go_roundg k2
      case measure=>have:=HK1.1;have:=HK2.1;omega
      case rel=>exact ⟨(y214),(wrap64 (x8_2+1)),zJJ,H',⟨by have:=HK1.1;have:=HK2.1;omega⟩,⟨zR HO_3.1⟩,⟨zR HO_7.1⟩,⟨zB0⟩,⟨zB2⟩,⟨zB1⟩⟩
   rw [if_neg c35] at H
   have c35b0:(t205 == 0)=false:=beq_eq_false_iff_ne.mpr c35
   have c35b1:(t205 != 0)=true:=bne_iff_ne.mpr c35
   by_cases c49:t205=1
   rotate_left
   ·rw [if_neg c49] at H
    have c49b0:(t205 == 1)=false:=beq_eq_false_iff_ne.mpr c49
    have c49b1:(t205 != 1)=true:=bne_iff_ne.mpr c49
    simp only [Option.some.injEq,Prod.mk.injEq] at H
    obtain ⟨rfl,rfl,rfl⟩:=H
    go_wp2_with (first|((with_reducible refine zG Try.func43 36 #[.pointer (some ⟨g,0,none⟩),.int .i64 4] ?_);(with_reducible refine (spec_l1Below.calls g s0_0 x1001_1 x1002_1 4 t205 t206 t207 w0 _ ?side1 ?side2 A34.1).mono ?_);(case side1=>exact zB0);(case side2=>exact zB1);rintro e w63 ⟨rfl,hi,hb,hk⟩;refine ⟨_,rfl,?_⟩;replace HO_3:=zM (Kd.R_mono (Kd.R_keep (IsS104.apart (show IsS104 w0 _ g s0_0 x1001_1 x1002_1 from zB0) (zR HO_3.1) (by decide)) hk (fun _ h=>h.2)) (fun _ h=>h.1));replace HK:=zM (KeepBut.trans zB2 hk (.inl rfl));replace HB:=zM hb;replace HI0:=zM hi;clear hb hk hi))
    go_ret
    exact ⟨_,zE,zR HO_3.1,zB0,zB1,zB2⟩
   rw [if_pos c49] at H
   have c49b0:(t205 == 1)=true:=beq_iff_eq.mpr c49
   have c49b1:(t205 != 1)=false:=bne_eq_false_iff_eq.mpr c49
   clear c49
   generalize hy215:((([(⟨4,1,0,0,8⟩:S57),(⟨3,1,1,0,1⟩:S57),(⟨5,0,0,1,8⟩:S57),(⟨8,0,0,0,8⟩:S57)]:List (S57))):List (S57))=y215 at H
   have Ny215:=zM hy215.symm
   clear hy215
   have H':=zM H
   clear H
   go_wp2_with (first|((with_reducible refine zG Try.func43 36 #[.pointer (some ⟨g,0,none⟩),.int .i64 4] ?_);(with_reducible refine (spec_l1Below.calls g s0_0 x1001_1 x1002_1 4 t205 t206 t207 w0 _ ?side1 ?side2 A34.1).mono ?_);(case side1=>exact zB0);(case side2=>exact zB1);rintro e w50 ⟨rfl,hi,hb,hk⟩;refine ⟨_,rfl,?_⟩;replace HO_3:=zM (Kd.R_mono (Kd.R_keep (IsS104.apart (show IsS104 w0 _ g s0_0 x1001_1 x1002_1 from zB0) (zR HO_3.1) (by decide)) hk (fun _ h=>h.2)) (fun _ h=>h.1));replace HK:=zM (KeepBut.trans zB2 hk (.inl rfl));replace HB:=zM hb;replace HI0:=zM hi;clear hb hk hi)|((with_reducible refine gate_dst (N:=67) rfl ?_);refine Kd.R_lit k57 _ 57 ?hg (N:=67) ?hd (xs:=([(⟨4,1,0,0,8⟩:S57),(⟨3,1,1,0,1⟩:S57),(⟨5,0,0,1,8⟩:S57),(⟨8,0,0,0,8⟩:S57)]:List (S57))) (inner:=[.int .i64 4,.int .i64 1,.int .i64 0,.int .i64 0,.int .i64 8,.int .i64 3,.int .i64 1,.int .i64 1,.int .i64 0,.int .i64 1,.int .i64 5,.int .i64 0,.int .i64 0,.int .i64 1,.int .i64 8,.int .i64 8,.int .i64 0,.int .i64 0,.int .i64 0,.int .i64 8]) (ok:=fun _=>True) (okp:=fun _=>True) ?hr ?hp (fun _ hk=>hk) trivial (Below.refl _ _) (Nat.le_refl _) (by simp) ?_;(case hd=>rfl);(case hg=>rfl);(case hr=>exact zHH);(case hp=>exact (Reps.c5 (show Kd.M k57 _ _ _ (⟨4,1,0,0,8⟩:S57) [.int .i64 4,.int .i64 1,.int .i64 0,.int .i64 0,.int .i64 8] from (k57_mkM _ _ _ (⟨4,1,0,0,8⟩:S57))) (Reps.c5 (show Kd.M k57 _ _ _ (⟨3,1,1,0,1⟩:S57) [.int .i64 3,.int .i64 1,.int .i64 1,.int .i64 0,.int .i64 1] from (k57_mkM _ _ _ (⟨3,1,1,0,1⟩:S57))) (Reps.c5 (show Kd.M k57 _ _ _ (⟨5,0,0,1,8⟩:S57) [.int .i64 5,.int .i64 0,.int .i64 0,.int .i64 1,.int .i64 8] from (k57_mkM _ _ _ (⟨5,0,0,1,8⟩:S57))) (Reps.c5 (show Kd.M k57 _ _ _ (⟨8,0,0,0,8⟩:S57) [.int .i64 8,.int .i64 0,.int .i64 0,.int .i64 0,.int .i64 8] from (k57_mkM _ _ _ (⟨8,0,0,0,8⟩:S57))) (Reps.none _ _))))));intro v216 w51 ho52 hb hg_ hnew_;clear hg_ hnew_;(first|rw [←Ny215.1] at ho52|(simp only [Int.reduceToNat] at ho52;rw [←Ny215.1] at ho52));replace HO_3:=zM (Kd.R_below (zR HO_3.1) hb);have HO217:=zM (Kd.R_lower ho52 (keep_size (w:=w) (g:=g) (row:=none) zB2));replace HK:=zM (KeepBut.trans zB2 (KeepBut.of_below hb g none) (.inl rfl));replace HB:=zM (below_step zB1 hb);replace HI0:=zM (IsS104.below zB0 hb);clear hb ho52))
   go_loopg [10] k1 (fun kq v10 w'=>∃(x3_2:List Int) (x10_2:Int),v10= .int .i64 x10_2∧Aside0 (spec_l9DrawMem.l2 kq x3_2 y215 x10_2 s0_0 t206 t207=some (r1,r2,r3))∧Aside0 (kq≤k1)∧Aside0 (Kd.R (Kd.int .i64) 3 w' w.heap.size (fun _=>True) u3 x3_2)∧Aside0 (Kd.R k57 57 w' w.heap.size (fun _=>True) v216 y215)∧Aside0 (IsS104 w0 w' g s0_0 t206 t207)∧Aside0 (KeepBut w w' g none)∧Aside0 (Below w0.heap.size w0 w'))
   case atStart=>exact ⟨(x3_1),(0),zJJ,H',⟨Nat.le_refl _⟩,⟨zR HO_3.1⟩,⟨zR HO217.1⟩,⟨zB0⟩,⟨zB2⟩,⟨zB1⟩⟩
   case round=>
    clear H'
    try clear hf4
    try clear hf43
    obtain ⟨x3_2,x10_2,rfl,HA,HK2,HO_3,HO_9,HI0,HK,HB⟩:=hrel
    cases gk with
    |zero=>exact absurd HA.1 (by simp [spec_l9DrawMem.l2])
    |succ k2=>
     have H:=HA.1
     clear HA
     simp only [spec_l9DrawMem.l2] at H
     by_cases c53:x10_2<(y215.length:Int)
     rotate_left
     ·rw [if_neg c53] at H
      have c53b0:=decide_eq_false c53
      clear c53
      simp only [Option.some.injEq,Prod.mk.injEq] at H
      obtain ⟨rfl,rfl,rfl⟩:=H
      obtain ⟨Ao62,co62,eo62⟩:=Kd.R_slice HO_9.1
      subst eo62
      go_wp2
      go_ret
      exact ⟨_,zE,zR HO_3.1,zB0,zB1,zB2⟩
     rw [if_pos c53] at H
     have c53b0:=decide_eq_true c53
     clear c53
     replace H:=zIt H
     obtain ⟨c54b0,H⟩:=H
     replace H:=zO H
     obtain ⟨⟨t219,t220⟩,A55,H⟩:=H
     try dsimp only at H
     replace H:=zIt H
     obtain ⟨c56b0,H⟩:=H
     generalize hy221:((x3_2.set (x10_2:Int).toNat t219):List Int)=y221 at H
     have Ny221:=zM hy221.symm
     clear hy221
     have H':=zM H
     clear H
     obtain ⟨Ao58,co58,eo58⟩:=Kd.R_slice HO_9.1
     subst eo58
     obtain ⟨p218,q218,ad218,e218,hx218_0,hx218_1,hx218_2,hx218_3,hx218_4⟩:=zRd (at_T57 (Kd.R_reads' HO_9.1).2.2 x10_2)
     cases e218
     go_wp2_with (first|((with_reducible refine zG Try.func57 81 #[.agg #[.int .i64 ((rd_T57 y215 x10_2).f0),.int .i64 ((rd_T57 y215 x10_2).f1),.int .i64 ((rd_T57 y215 x10_2).f2),.int .i64 ((rd_T57 y215 x10_2).f3),.int .i64 ((rd_T57 y215 x10_2).f4)]] ?_);(with_reducible refine (spec_Code.calls ((rd_T57 y215 x10_2).f0) ((rd_T57 y215 x10_2).f1) ((rd_T57 y215 x10_2).f2) ((rd_T57 y215 x10_2).f3) ((rd_T57 y215 x10_2).f4) t219 t220 _ A55.1).mono ?_);rintro e w59 ⟨rfl,hb⟩;refine ⟨_,rfl,?_⟩;replace HO_3:=zM (Kd.R_below (zR HO_3.1) hb);replace HO_9:=zM (Kd.R_below (zR HO_9.1) hb);replace HK:=zM (KeepBut.trans zB2 (KeepBut.of_below hb g none) (.inl rfl));replace HB:=zM (below_step zB1 hb);replace HI0:=zM (IsS104.below zB0 hb);clear hb;have p57:0≤(x10_2:Int):=zA;have q57:(x10_2:Int)<((x3_2.length:Int):Int):=zA;obtain ⟨go57,co57,eo57,gb57,gl57,cl57,HG57⟩:=Kd.R_form HO_3.1 (by omega);(first|cases eo57|(injection eo57 with ea_ en_ ec_;(first|subst ea_|(injection ea_ with ea_;subst ea_));subst ec_;clear en_));have GB57:=zM gb57;have GG57:=zM HG57;clear gb57 gl57 HG57;obtain ⟨hx57_0,hf57_0⟩:=Kd.R_celln 0 HO_3.1 (x10_2:Int) p57 q57;replace p57:=eq_true p57;replace q57:=eq_true q57;obtain ⟨hy60_,hz60_⟩:=Kd.R_celln 0 HO_3.1 (x10_2:Int) zA zA;have HP60:=Kd.R_putg HO_3.1 (x10_2:Int) t219)|((with_reducible refine gate_store (t:=3) (p:=84) rfl ?_);refine store_event (t:=3) (p:=84) (v:=?vo_w61) (w1:=(w59.setCell ⟨go57,(x10_2:Int).toNat,none⟩ (.int .i64 t219))) ?hg ?ho ?hn ?hr ?_;(case ho=>rfl);(case hg=>rfl);(case hn=>rfl);(case hr=>exact zHH);intro w61 hw;have hg:w59.grownBy w61 (some go57):=(by rw [hw];exact HP60.2);have hp_:Kd.R (Kd.int .i64) 3 w61 w.heap.size (fun _=>True) (.slice (some ⟨go57,0,none⟩) x3_2.length co57) y221:=(by rw [hw,Ny221.1];exact HP60.1);clear HP60;replace HO_9:=zM (Kd.R_over' (v:=(.slice (some ⟨go57,0,none⟩) x3_2.length co57)) (zR HO_9.1) (Kd.R_typed HO_3.1) (by decide) hg);replace HI0:=zM (IsS104.grown zB0 hg (IsS104.own_ne HI0.1 HO_3.1 (by decide)));replace HB:=zM ((by rw [hw];exact below_set (HB.1) (Nat.le_trans HL.1 GB57.1):Below w0.heap.size w0 w61));replace HK:=zM (KeepBut.trans zB2 (KeepBut.of_grown hg g) (Kd.R_base2 HO_3.1));replace HO_3:=zM hp_;clear hg hw hp_))
     go_roundg k2
     case measure=>have:=HK1.1;have:=HK2.1;omega
     case rel=>exact ⟨(y221),(wrap64 (x10_2+1)),zJJ,H',⟨by have:=HK1.1;have:=HK2.1;omega⟩,⟨zR HO_3.1⟩,⟨zR HO_9.1⟩,⟨zB0⟩,⟨zB2⟩,⟨zB1⟩⟩

/-! ### spec_l9Address: function 102 -/
def spec_l9Address.f (a0:Int):Option (Int):=if (Int.tmod a0 24)<0 then (some (wrap64 ((Int.tmod a0 24)+24))) else (some (Int.tmod a0 24))
theorem spec_l9Address.calls (a0:Int) (r:Int) (w:World) (h:spec_l9Address.f a0=some r):
  Calls Try.prog 102 #[.int .i64 a0] w fun e w'=>e= .returned (.int .i64 r)∧Drawn0 w w':=by
 unfold spec_l9Address.f at h
 have H:=h
 clear h
 by_cases c2:(Int.tmod a0 24)<0
 ·rw [if_pos c2] at H
  have c2b0:=decide_eq_true c2
  clear c2
  obtain rfl:=Option.some.inj H
  go_enter Try.func102,Try.ntmps102
  go_wp2
  go_ret
  exact ⟨zJJ,zDD⟩
 rw [if_neg c2] at H
 have c2b0:=decide_eq_false c2
 clear c2
 obtain rfl:=Option.some.inj H
 go_enter Try.func102,Try.ntmps102
 go_wp2
 go_ret
 exact ⟨zJJ,zDD⟩

end Go.Proofs.Ytaakcbgpmabaaaa.PFnSeen
