-- made by wip/tools/myprint.py out of the seat's translation
import Derived.Test.YtaakcbgpmabaaaaPFnSeenx0
namespace Go.Proofs.Ytaakcbgpmabaaaa.PFnSeen
open Go.RowKit Go.Proofs.YtaakcbgpmabaaaaW.PrintWords Go.Proofs.YtaakcbgpmabaaaaW.PrintLast Go.Proofs.YtaakcbgpmabaaaaW.PrintMore
attribute [local go_sem] max2_int min2_int max_two min_two max_three min_three max_four min_four -- for this text's walks alone
set_option linter.unusedVariables false
set_option linter.unusedSimpArgs false
set_option maxHeartbeats 8000000
set_option maxRecDepth 100000

/-! ### laws_big: function 5 -/
def laws_big.f (l0:List Int):Option (Bool):=some (decide ((l0.length:Int)>1048576))
theorem laws_big.calls (A0:Option Addr) (c0:Nat) (l0:List Int) (r:Bool) (w:World) (hr0:Kd.C (Kd.int .u8) w A0 l0.length l0) (hc0:l0.length≤c0) (h:laws_big.f l0=some r):
  Calls Try.prog 5 #[.slice A0 l0.length c0] w fun e w'=>e= .returned (.bool r)∧Drawn0 w w':=by
 have HR0:=zM hr0
 have HC0:=zM hc0
 clear hr0 hc0
 unfold laws_big.f at h
 have H:=h
 clear h
 obtain rfl:=Option.some.inj H
 go_enter Try.func5,Try.ntmps5
 go_wp2
 go_ret
 exact ⟨zJJ,zDD⟩

/-- A state of type 104 at block g of W; what its slices lead to came in by w0. -/
def IsS104 (w0 W:World) (g:Nat) (f0:List Int) (f1:Int) (f2:Int):Prop:=∃A0 c0,W.heap[g]? =some (.cells #[.slice A0 f0.length c0,.int .i64 f1,.int .i64 f2] 104 (0,0))∧w0.heap.size≤g∧Kd.C (Kd.int .u8) w0 A0 f0.length f0
theorem IsS104.grown {w0 W:World} {g:Nat} {f0:List Int} {f1:Int} {f2:Int} {W1:World} {row:Option Nat} (h:IsS104 w0 W g f0 f1 f2) (hw:W.grownBy W1 row) (hne:some g≠row):IsS104 w0 W1 g f0 f1 f2:=by
 obtain ⟨A0,c0,hb,hg,hr0⟩:=h
 exact ⟨A0,c0,blk_grown hb hw hne,hg,hr0⟩
theorem IsS104.own_neN {w0 W:World} {g:Nat} {f0:List Int} {f1:Int} {f2:Int} {α:Type} {d:Kd α} {e:Nat} {base:Nat} {ok:Nat→Prop} {v:Value} {xs:List α} (h:IsS104 w0 W g f0 f1 f2) (ho:Kd.N d e W base ok v xs) (ht:e≠104):some g≠v.ownBlock:=by
 obtain ⟨A0,c0,hb,hg,hr0⟩:=h
 exact Kd.N_ne ho hb ht
theorem IsS104.fresh {w0 W:World} {g:Nat} {f0:List Int} {f1:Int} {f2:Int} (h:IsS104 w0 W g f0 f1 f2): ∀k,W.heap.size≤k→k≠g:=by
 obtain ⟨A0,c0,hb,hg,hr0⟩:=h
 exact Kd.freshB hb
theorem IsS104.kept {w0 W:World} {g:Nat} {f0:List Int} {f1:Int} {f2:Int} {W1:World} {S:Nat→Prop} (h:IsS104 w0 W g f0 f1 f2) (hk:Kept W W1 S) (hne: ¬S g):IsS104 w0 W1 g f0 f1 f2:=by
 obtain ⟨A0,c0,hb,hg,hr0⟩:=h
 exact ⟨A0,c0,blk_kept hb hk hne,hg,hr0⟩
theorem IsS104.below {w0 W:World} {g:Nat} {f0:List Int} {f1:Int} {f2:Int} {W1:World} (h:IsS104 w0 W g f0 f1 f2) (hw:Below W.heap.size W W1):IsS104 w0 W1 g f0 f1 f2:=h.grown (grown_of_below hw none) (by simp)
theorem IsS104.alloc {w0 W:World} {g:Nat} {f0:List Int} {f1:Int} {f2:Int} (h:IsS104 w0 W g f0 f1 f2) (o:Obj):IsS104 w0 (W.alloc o) g f0 f1 f2:=h.below (below_alloc (Below.refl _ _) o)
theorem IsS104.drewN {w0 W:World} {g:Nat} {f0:List Int} {f1:Int} {f2:Int} (h:IsS104 w0 W g f0 f1 f2) (m:Nat):IsS104 w0 (W.drewN m) g f0 f1 f2:=h
theorem IsS104.drew {w0 W:World} {g:Nat} {f0:List Int} {f1:Int} {f2:Int} (h:IsS104 w0 W g f0 f1 f2):IsS104 w0 W.drew g f0 f1 f2:=h
theorem IsS104.at_ {w0 W:World} {g:Nat} {f0:List Int} {f1:Int} {f2:Int} {w':World} {m:Nat} (hq:W.drewN m=w') (h:IsS104 w0 W g f0 f1 f2):IsS104 w0 w' g f0 f1 f2:=by subst hq;exact IsS104.drewN h m
theorem IsS104.apart {w0 W:World} {g:Nat} {f0:List Int} {f1:Int} {f2:Int} {α:Type} {d:Kd α} {e:Nat} {base:Nat} {ok:Nat→Prop} {v:Value} {xs:List α} (h:IsS104 w0 W g f0 f1 f2) (ho:d.R e W base ok v xs) (ht: ∀q,q∈e :: d.E→q≠104):d.R e W base (fun k=>ok k∧k≠g) v xs:=by
 obtain ⟨A0,c0,hb,hg,hr0⟩:=h
 exact Kd.R_types ho hb ht
theorem IsS104.own_ne {w0 W:World} {g:Nat} {f0:List Int} {f1:Int} {f2:Int} {α:Type} {d:Kd α} {e:Nat} {base:Nat} {ok:Nat→Prop} {v:Value} {xs:List α} (h:IsS104 w0 W g f0 f1 f2) (ho:d.R e W base ok v xs) (ht:e≠104):some g≠v.ownBlock:=by
 obtain ⟨A0,c0,hb,hg,hr0⟩:=h
 exact Kd.R_ne ho hb ht
theorem IsS104.apartQ {w0 W:World} {g:Nat} {f0:List Int} {f1:Int} {f2:Int} {α:Type} {d:Kd α} {e:Nat} {base:Nat} {ok:Nat→Prop} {v:Value} {xs:List α} (h:IsS104 w0 W g f0 f1 f2) (ho:d.Q e W base ok v xs) (ht: ∀q,q∈e :: d.E→q≠104):d.Q e W base (fun k=>ok k∧k≠g) v xs:=by
 obtain ⟨A0,c0,hb,hg,hr0⟩:=h
 exact Kd.Q_types ho hb ht
theorem IsS104.own_neQ {w0 W:World} {g:Nat} {f0:List Int} {f1:Int} {f2:Int} {α:Type} {d:Kd α} {e:Nat} {base:Nat} {ok:Nat→Prop} {v:Value} {xs:List α} (h:IsS104 w0 W g f0 f1 f2) (ho:d.Q e W base ok v xs) (ht:e≠104):some g≠v.ownBlock:=by
 obtain ⟨A0,c0,hb,hg,hr0⟩:=h
 exact Kd.Q_ne ho hb ht
theorem IsS104.apartS {w0 W:World} {g:Nat} {f0:List Int} {f1:Int} {f2:Int} {α:Type} {d:Kd α} {e:Nat} {base:Nat} {ok:Nat→Prop} {v:Value} {xs:List α} (h:IsS104 w0 W g f0 f1 f2) (ho:d.S e W base ok v xs) (ht: ∀q,q∈e :: d.E→q≠104):d.S e W base (fun k=>ok k∧k≠g) v xs:=by
 obtain ⟨A0,c0,hb,hg,hr0⟩:=h
 exact Kd.S_types ho hb ht
theorem IsS104.own_neS {w0 W:World} {g:Nat} {f0:List Int} {f1:Int} {f2:Int} {α:Type} {d:Kd α} {e:Nat} {base:Nat} {ok:Nat→Prop} {v:Value} {xs:List α} (h:IsS104 w0 W g f0 f1 f2) (ho:d.S e W base ok v xs) (ht:e≠104):some g≠v.ownBlock:=by
 obtain ⟨A0,c0,hb,hg,hr0⟩:=h
 exact Kd.S_ne ho hb ht
theorem IsS104.lt {w0 W:World} {g:Nat} {f0:List Int} {f1:Int} {f2:Int} (h:IsS104 w0 W g f0 f1 f2):g<W.heap.size:=by
 obtain ⟨A0,c0,hb,hg,hr0⟩:=h
 exact blk_lt hb
theorem IsS104.ge {w0 W:World} {g:Nat} {f0:List Int} {f1:Int} {f2:Int} (h:IsS104 w0 W g f0 f1 f2):w0.heap.size≤g:=by
 obtain ⟨A0,c0,hb,hg,hr0⟩:=h
 exact hg
theorem IsS104.ne_blk {w0 W:World} {g:Nat} {f0:List Int} {f1:Int} {f2:Int} {a:Nat} {cs:Array Value} {t:TypeId} {fr:Nat×Nat} (h:IsS104 w0 W g f0 f1 f2) (hb2:W.heap[a]? =some (.cells cs t fr)) (ht:t≠104):g≠a:=by
 obtain ⟨A0,c0,hb,hg,hr0⟩:=h
 rintro rfl
 rw [hb] at hb2
 injection hb2 with hb2
 injection hb2 with _ ht2
 exact ht ht2.symm
theorem IsS104.far {w0 W:World} {g:Nat} {f0:List Int} {f1:Int} {f2:Int} {p:Addr} (h:IsS104 w0 W g f0 f1 f2) (hne:g≠p.block) (u:Value):IsS104 w0 (W.setCell p u) g f0 f1 f2:=by
 obtain ⟨A0,c0,hb,hg,hr0⟩:=h
 exact ⟨A0,c0,blk_far hb hne u,hg,hr0⟩
theorem cellS104_0 {W:World} {g:Nat} {A0:Option Addr} {c0:Nat} {f0:List Int} {f1:Int} {f2:Int} (h:W.heap[g]? =some (.cells #[.slice A0 f0.length c0,.int .i64 f1,.int .i64 f2] 104 (0,0))):W.cell? ⟨g,0,none⟩=some (.slice A0 f0.length c0):=(blk_cell h 0).trans rfl
theorem cellS104_1 {W:World} {g:Nat} {A0:Option Addr} {c0:Nat} {f0:List Int} {f1:Int} {f2:Int} (h:W.heap[g]? =some (.cells #[.slice A0 f0.length c0,.int .i64 f1,.int .i64 f2] 104 (0,0))):W.cell? ⟨g,1,none⟩=some (.int .i64 f1):=(blk_cell h 1).trans rfl
theorem IsS104.set_1 {w0 W:World} {g:Nat} {f0:List Int} {f1:Int} {f2:Int} (h:IsS104 w0 W g f0 f1 f2) (x:Int):IsS104 w0 (W.setCell ⟨g,1,none⟩ (.int .i64 x)) g f0 x f2:=by
 obtain ⟨A0,c0,hb,hg,hr0⟩:=h
 exact ⟨A0,c0,by simpa using blk_set hb 1 (.int .i64 x),hg,hr0⟩
theorem cellS104_2 {W:World} {g:Nat} {A0:Option Addr} {c0:Nat} {f0:List Int} {f1:Int} {f2:Int} (h:W.heap[g]? =some (.cells #[.slice A0 f0.length c0,.int .i64 f1,.int .i64 f2] 104 (0,0))):W.cell? ⟨g,2,none⟩=some (.int .i64 f2):=(blk_cell h 2).trans rfl
theorem IsS104.set_2 {w0 W:World} {g:Nat} {f0:List Int} {f1:Int} {f2:Int} (h:IsS104 w0 W g f0 f1 f2) (x:Int):IsS104 w0 (W.setCell ⟨g,2,none⟩ (.int .i64 x)) g f0 f1 x:=by
 obtain ⟨A0,c0,hb,hg,hr0⟩:=h
 exact ⟨A0,c0,by simpa using blk_set hb 2 (.int .i64 x),hg,hr0⟩
theorem IsS104.new (w0 W:World) (A0:Option Addr) (c0:Nat) (f0:List Int) (f1:Int) (f2:Int) (hB:Below w0.heap.size w0 W) (hr0:Kd.C (Kd.int .u8) w0 A0 f0.length f0):IsS104 w0 (W.alloc (.cells #[.slice A0 f0.length c0,.int .i64 f1,.int .i64 f2] 104)) W.heap.size f0 f1 f2:=⟨A0,c0,by simpa using heap_alloc_new W _,hB.size,hr0⟩

/-! ### spec_l1Byte: function 83 -/
def spec_l1Byte.f (s0_0:List Int) (s0_1:Int) (s0_2:Int):Option (Int×Int×Int):=if s0_1<(s0_0.length:Int) then (if 0≤s0_1 then (some (Go.bits .and .i64 (wrap64 ((Go.bits .and .i64 (Go.bits .xor .i64 ((wrap64 ((wrap64 (s0_2*6364136223846793005))+1442695040888963407)) / 8589934592) ((wrap64 ((wrap64 (s0_2*6364136223846793005))+1442695040888963407)) / 35184372088832)) 255)+(wrap64 (rd s0_0 s0_1)))) 255,wrap64 (s0_1+1),wrap64 ((wrap64 (s0_2*6364136223846793005))+1442695040888963407))) else (none)) else (some (Go.bits .and .i64 (Go.bits .xor .i64 ((wrap64 ((wrap64 (s0_2*6364136223846793005))+1442695040888963407)) / 8589934592) ((wrap64 ((wrap64 (s0_2*6364136223846793005))+1442695040888963407)) / 35184372088832)) 255,s0_1,wrap64 ((wrap64 (s0_2*6364136223846793005))+1442695040888963407)))
theorem spec_l1Byte.calls (g:Nat) (s0_0:List Int) (s0_1:Int) (s0_2:Int) (r1:Int) (r2:Int) (r3:Int) (w0 w:World) (hI:IsS104 w0 w g s0_0 s0_1 s0_2) (hB:Below w0.heap.size w0 w) (h:spec_l1Byte.f s0_0 s0_1 s0_2=some (r1,r2,r3)):
  Calls Try.prog 83 #[.pointer (some ⟨g,0,none⟩)] w fun e w'=>e= .returned (.int .i64 r1)∧IsS104 w0 w' g s0_0 r2 r3∧Below w0.heap.size w0 w'∧KeepBut w w' g none:=by
 have HI0:=zM hI
 have HK:=zM (KeepBut.refl w g none)
 have HL:=zM hB.size
 clear hI
 have HW0:=zM hB.size
 have HB:=zM hB
 clear hB
 unfold spec_l1Byte.f at h
 have H:=h
 clear h
 by_cases c2:s0_1<(s0_0.length:Int)
 rotate_left
 ·rw [if_neg c2] at H
  have c2b0:=decide_eq_false c2
  clear c2
  simp only [Option.some.injEq,Prod.mk.injEq] at H
  obtain ⟨rfl,rfl,rfl⟩:=H
  obtain ⟨ASz5_0,cSz5_0,HGz5,hgz5,HSz5_0⟩:=HI0.1
  have hcz5_0:=cellS104_0 HGz5
  have hcz5_1:=cellS104_1 HGz5
  have hcz5_2:=cellS104_2 HGz5
  have hfz5_1:=blk_frozen HGz5 1
  have hfz5_2:=blk_frozen HGz5 2
  clear HGz5 hgz5
  go_enter Try.func83,Try.ntmps83
  go_wp2
  repeat (go_quiet (fail);try go_wp2)
  go_ret
  exact ⟨zE,zB0,zB1,zB2⟩
 rw [if_pos c2] at H
 have c2b0:=decide_eq_true c2
 clear c2
 replace H:=zIt H
 obtain ⟨c3b0,H⟩:=H
 simp only [Option.some.injEq,Prod.mk.injEq] at H
 obtain ⟨rfl,rfl,rfl⟩:=H
 obtain ⟨ASz4_0,cSz4_0,HGz4,hgz4,HSz4_0⟩:=HI0.1
 have hcz4_0:=cellS104_0 HGz4
 have hcz4_1:=cellS104_1 HGz4
 have hcz4_2:=cellS104_2 HGz4
 have hfz4_1:=blk_frozen HGz4 1
 have hfz4_2:=blk_frozen HGz4 2
 clear HGz4 hgz4
 obtain ⟨p101,q101,ad101,e101,hx101_0⟩:=zRd (Kd.at_int HSz4_0 s0_1)
 cases e101
 have hn101_0:ad101.block≠g:=Nat.ne_of_lt (Nat.lt_of_lt_of_le (by have:=World.block_lt_of_cell? _ _ hx101_0;first|rwa [add_block] at this|exact this) (IsS104.ge HI0.1))
 replace hx101_0:=pw_cell_below HB.1 hx101_0
 replace hx101_0:=(cell_far (p:=⟨g,2,none⟩) (by first|(rw [add_block];exact hn101_0)|(show (Addr.add _ _).block≠_;rw [add_block];exact hn101_0)|exact hn101_0) (.int .i64 (wrap64 ((wrap64 (s0_2*6364136223846793005))+1442695040888963407)))).trans hx101_0
 (try have hy101_0:=fun (n_:Nat)=>(show (((w.drewN n_).setCell ⟨g,2,none⟩ (.int .i64 (wrap64 ((wrap64 (s0_2*6364136223846793005))+1442695040888963407))))).cell? _=some _ from hx101_0))
 clear hn101_0
 go_enter Try.func83,Try.ntmps83
 go_wp2
 repeat (go_quiet (fail);try go_wp2)
 go_ret
 exact ⟨zE,zB0,zB1,zB2⟩

/-! ### spec_l1Below: function 43 -/
def spec_l1Below.f (s0_0:List Int) (s0_1:Int) (s0_2:Int) (a1:Int):Option (Int×Int×Int):=if a1≤0 then (some (0,s0_1,s0_2)) else (if a1≤256 then ((spec_l1Byte.f s0_0 s0_1 s0_2).bind fun bt102=>(if a1=0 then (none) else (some (Int.tmod bt102.1 a1,bt102.2.1,bt102.2.2)))) else ((spec_l1Byte.f s0_0 s0_1 s0_2).bind fun bt105=>((spec_l1Byte.f s0_0 bt105.2.1 bt105.2.2).bind fun bt108=>((spec_l1Byte.f s0_0 bt108.2.1 bt108.2.2).bind fun bt111=>((spec_l1Byte.f s0_0 bt111.2.1 bt111.2.2).bind fun bt114=>(if a1=0 then (none) else (some (Int.tmod (wrap64 ((wrap64 ((wrap64 ((wrap64 (bt105.1*16777216))+(wrap64 (bt108.1*65536))))+(wrap64 (bt111.1*256))))+bt114.1)) a1,bt114.2.1,bt114.2.2))))))))
theorem spec_l1Below.calls (g:Nat) (s0_0:List Int) (s0_1:Int) (s0_2:Int) (a1:Int) (r1:Int) (r2:Int) (r3:Int) (w0 w:World) (hI:IsS104 w0 w g s0_0 s0_1 s0_2) (hB:Below w0.heap.size w0 w) (h:spec_l1Below.f s0_0 s0_1 s0_2 a1=some (r1,r2,r3)):
  Calls Try.prog 43 #[.pointer (some ⟨g,0,none⟩),.int .i64 a1] w fun e w'=>e= .returned (.int .i64 r1)∧IsS104 w0 w' g s0_0 r2 r3∧Below w0.heap.size w0 w'∧KeepBut w w' g none:=by
 have HI0:=zM hI
 have HK:=zM (KeepBut.refl w g none)
 have HL:=zM hB.size
 clear hI
 have HW0:=zM hB.size
 have HB:=zM hB
 clear hB
 unfold spec_l1Below.f at h
 have H:=h
 clear h
 by_cases c3:a1≤0
 ·rw [if_pos c3] at H
  have c3b0:=decide_eq_true c3
  clear c3
  simp only [Option.some.injEq,Prod.mk.injEq] at H
  obtain ⟨rfl,rfl,rfl⟩:=H
  go_enter Try.func43,Try.ntmps43
  go_wp2
  go_ret
  exact ⟨zE,zB0,zB1,zB2⟩
 rw [if_neg c3] at H
 have c3b0:=decide_eq_false c3
 clear c3
 by_cases c4:a1≤256
 ·rw [if_pos c4] at H
  have c4b0:=decide_eq_true c4
  clear c4
  replace H:=zO H
  obtain ⟨⟨t102,t103,t104⟩,A5,H⟩:=H
  try dsimp only at H
  by_cases c6:a1=0
  ·rw [if_pos c6] at H
   exact absurd H (by simp)
  rw [if_neg c6] at H
  have c6b0:(a1 == 0)=false:=beq_eq_false_iff_ne.mpr c6
  have c6b1:(a1 != 0)=true:=bne_iff_ne.mpr c6
  simp only [Option.some.injEq,Prod.mk.injEq] at H
  obtain ⟨rfl,rfl,rfl⟩:=H
  go_enter Try.func43,Try.ntmps43
  go_wp2_with (first|((with_reducible refine zG Try.func83 14 #[.pointer (some ⟨g,0,none⟩)] ?_);(with_reducible refine (spec_l1Byte.calls g s0_0 s0_1 s0_2 t102 t103 t104 w0 _ ?side1 ?side2 A5.1).mono ?_);(case side1=>exact zB0);(case side2=>exact zB1);rintro e w7 ⟨rfl,hi,hb,hk⟩;refine ⟨_,rfl,?_⟩;replace HK:=zM (KeepBut.trans zB2 hk (.inl rfl));replace HB:=zM hb;replace HI0:=zM hi;clear hb hk hi))
  go_ret
  exact ⟨zE,zB0,zB1,zB2⟩
 rw [if_neg c4] at H
 have c4b0:=decide_eq_false c4
 clear c4
 replace H:=zO H
 obtain ⟨⟨t105,t106,t107⟩,A8,H⟩:=H
 try dsimp only at H
 replace H:=zO H
 obtain ⟨⟨t108,t109,t110⟩,A9,H⟩:=H
 try dsimp only at H
 replace H:=zO H
 obtain ⟨⟨t111,t112,t113⟩,A10,H⟩:=H
 try dsimp only at H
 replace H:=zO H
 obtain ⟨⟨t114,t115,t116⟩,A11,H⟩:=H
 try dsimp only at H
 by_cases c12:a1=0
 ·rw [if_pos c12] at H
  exact absurd H (by simp)
 rw [if_neg c12] at H
 have c12b0:(a1 == 0)=false:=beq_eq_false_iff_ne.mpr c12
 have c12b1:(a1 != 0)=true:=bne_iff_ne.mpr c12
 simp only [Option.some.injEq,Prod.mk.injEq] at H
 obtain ⟨rfl,rfl,rfl⟩:=H
 go_enter Try.func43,Try.ntmps43
 go_wp2_with (first|((with_reducible refine zG Try.func83 18 #[.pointer (some ⟨g,0,none⟩)] ?_);(with_reducible refine (spec_l1Byte.calls g s0_0 s0_1 s0_2 t105 t106 t107 w0 _ ?side1 ?side2 A8.1).mono ?_);(case side1=>exact zB0);(case side2=>exact zB1);rintro e w13 ⟨rfl,hi,hb,hk⟩;refine ⟨_,rfl,?_⟩;replace HK:=zM (KeepBut.trans zB2 hk (.inl rfl));replace HB:=zM hb;replace HI0:=zM hi;clear hb hk hi)|((with_reducible refine zG Try.func83 20 #[.pointer (some ⟨g,0,none⟩)] ?_);(with_reducible refine (spec_l1Byte.calls g s0_0 t106 t107 t108 t109 t110 w0 _ ?side1 ?side2 A9.1).mono ?_);(case side1=>exact zB0);(case side2=>exact zB1);rintro e w14 ⟨rfl,hi,hb,hk⟩;refine ⟨_,rfl,?_⟩;replace HK:=zM (KeepBut.trans zB2 hk (.inl rfl));replace HB:=zM hb;replace HI0:=zM hi;clear hb hk hi)|((with_reducible refine zG Try.func83 22 #[.pointer (some ⟨g,0,none⟩)] ?_);(with_reducible refine (spec_l1Byte.calls g s0_0 t109 t110 t111 t112 t113 w0 _ ?side1 ?side2 A10.1).mono ?_);(case side1=>exact zB0);(case side2=>exact zB1);rintro e w15 ⟨rfl,hi,hb,hk⟩;refine ⟨_,rfl,?_⟩;replace HK:=zM (KeepBut.trans zB2 hk (.inl rfl));replace HB:=zM hb;replace HI0:=zM hi;clear hb hk hi)|((with_reducible refine zG Try.func83 24 #[.pointer (some ⟨g,0,none⟩)] ?_);(with_reducible refine (spec_l1Byte.calls g s0_0 t112 t113 t114 t115 t116 w0 _ ?side1 ?side2 A11.1).mono ?_);(case side1=>exact zB0);(case side2=>exact zB1);rintro e w16 ⟨rfl,hi,hb,hk⟩;refine ⟨_,rfl,?_⟩;replace HK:=zM (KeepBut.trans zB2 hk (.inl rfl));replace HB:=zM hb;replace HI0:=zM hi;clear hb hk hi))
 go_ret
 exact ⟨zE,zB0,zB1,zB2⟩

/-! ### spec_l1Once: function 41 -/
def spec_l1Once.f (s0_0:List Int) (s0_1:Int) (s0_2:Int) (a1:Int):Option (Bool×Int×Int):=(spec_l1Below.f s0_0 s0_1 s0_2 a1).bind fun bt117=>(some ((bt117.1 == 0),bt117.2.1,bt117.2.2))
theorem spec_l1Once.calls (g:Nat) (s0_0:List Int) (s0_1:Int) (s0_2:Int) (a1:Int) (r1:Bool) (r2:Int) (r3:Int) (w0 w:World) (hI:IsS104 w0 w g s0_0 s0_1 s0_2) (hB:Below w0.heap.size w0 w) (h:spec_l1Once.f s0_0 s0_1 s0_2 a1=some (r1,r2,r3)):
  Calls Try.prog 41 #[.pointer (some ⟨g,0,none⟩),.int .i64 a1] w fun e w'=>e= .returned (.bool r1)∧IsS104 w0 w' g s0_0 r2 r3∧Below w0.heap.size w0 w'∧KeepBut w w' g none:=by
 have HI0:=zM hI
 have HK:=zM (KeepBut.refl w g none)
 have HL:=zM hB.size
 clear hI
 have HW0:=zM hB.size
 have HB:=zM hB
 clear hB
 unfold spec_l1Once.f at h
 have H:=h
 clear h
 replace H:=zO H
 obtain ⟨⟨t117,t118,t119⟩,A3,H⟩:=H
 try dsimp only at H
 simp only [Option.some.injEq,Prod.mk.injEq] at H
 obtain ⟨rfl,rfl,rfl⟩:=H
 go_enter Try.func41,Try.ntmps41
 go_wp2_with (first|((with_reducible refine zG Try.func43 7 #[.pointer (some ⟨g,0,none⟩),.int .i64 a1] ?_);(with_reducible refine (spec_l1Below.calls g s0_0 s0_1 s0_2 a1 t117 t118 t119 w0 _ ?side1 ?side2 A3.1).mono ?_);(case side1=>exact zB0);(case side2=>exact zB1);rintro e w4 ⟨rfl,hi,hb,hk⟩;refine ⟨_,rfl,?_⟩;replace HK:=zM (KeepBut.trans zB2 hk (.inl rfl));replace HB:=zM hb;replace HI0:=zM hi;clear hb hk hi))
 go_ret
 exact ⟨zE,zB0,zB1,zB2⟩

/-! ### spec_l1In: function 46 -/
def spec_l1In.f (a0:Int) (a1:Int) (a2:Int):Option (Bool):=if a0≥a1 then (some (decide (a0≤a2))) else (some false)
theorem spec_l1In.calls (a0:Int) (a1:Int) (a2:Int) (r:Bool) (w:World) (h:spec_l1In.f a0 a1 a2=some r):
  Calls Try.prog 46 #[.int .i64 a0,.int .i64 a1,.int .i64 a2] w fun e w'=>e= .returned (.bool r)∧Drawn0 w w':=by
 unfold spec_l1In.f at h
 have H:=h
 clear h
 by_cases c4:a0≥a1
 ·rw [if_pos c4] at H
  have c4b0:=decide_eq_true c4
  clear c4
  obtain rfl:=Option.some.inj H
  go_enter Try.func46,Try.ntmps46
  go_wp2
  go_ret
  exact ⟨zJJ,zDD⟩
 rw [if_neg c4] at H
 have c4b0:=decide_eq_false c4
 clear c4
 obtain rfl:=Option.some.inj H
 go_enter Try.func46,Try.ntmps46
 go_wp2
 go_ret
 exact ⟨zJJ,zDD⟩

/-! ### spec_l8Has: function 100 -/
def spec_l8Has.f (a0:Int):Option (Int):=(spec_l1In.f a0 1 10).bind fun t120=>(if t120=true then ((some (([0,9,7,11,11,14,15,10,8,0,7]:List Int):List Int)).bind fun y121=>(if 0≤a0 then (if a0<(y121.length:Int) then (some (rd y121 a0)) else (none)) else (none))) else (some 0))
theorem spec_l8Has.calls (a0:Int) (r:Int) (w:World) (h:spec_l8Has.f a0=some r):
  Calls Try.prog 100 #[.int .i64 a0] w fun e w'=>e= .returned (.int .i64 r)∧Below w.heap.size w w':=by
 have HB:=zM (Below.refl w.heap.size w)
 unfold spec_l8Has.f at h
 have H:=h
 clear h
 replace H:=zO H
 obtain ⟨t120,A2,H⟩:=H
 by_cases c3:t120=true
 rotate_left
 ·replace c3:=Bool.eq_false_iff.mpr c3
  subst c3
  rw [if_neg zF] at H
  obtain rfl:=Option.some.inj H
  go_enter Try.func100,Try.ntmps100
  go_wp2_with (first|((with_reducible refine zG Try.func46 4 #[.int .i64 a0,.int .i64 1,.int .i64 10] ?_);(with_reducible refine (spec_l1In.calls a0 1 10 false _ A2.1).mono ?_);rintro e w' ⟨rfl,⟨nd,rfl⟩⟩;refine ⟨_,rfl,?_⟩))
  go_ret
  exact ⟨zE,zB3⟩
 subst c3
 rw [if_pos rfl] at H
 replace H:=zY H
 obtain ⟨y121,Ny121,H⟩:=H
 replace H:=zIt H
 obtain ⟨c4b0,H⟩:=H
 replace H:=zIt H
 obtain ⟨c5b0,H⟩:=H
 obtain rfl:=Option.some.inj H
 go_enter Try.func100,Try.ntmps100
 go_wp2_with (first|((with_reducible refine zG Try.func46 4 #[.int .i64 a0,.int .i64 1,.int .i64 10] ?_);(with_reducible refine (spec_l1In.calls a0 1 10 true _ A2.1).mono ?_);rintro e w' ⟨rfl,⟨nd,rfl⟩⟩;refine ⟨_,rfl,?_⟩)|((with_reducible refine gate_dst (N:=6) rfl ?_);refine Kd.R_lit (Kd.int .i64) _ 3 ?hg (N:=6) ?hd (xs:=([0,9,7,11,11,14,15,10,8,0,7]:List Int)) (inner:=[.int .i64 0,.int .i64 9,.int .i64 7,.int .i64 11,.int .i64 11,.int .i64 14,.int .i64 15,.int .i64 10,.int .i64 8,.int .i64 0,.int .i64 7]) (ok:=fun _=>True) (okp:=fun _=>True) ?hr ?hp (fun _ hk=>hk) trivial (Below.refl _ _) (Nat.le_refl _) (by simp) ?_;(case hd=>rfl);(case hg=>rfl);(case hr=>exact zHH);(case hp=>exact (Reps.one (show Kd.M (Kd.int .i64) _ _ _ 0 [.int .i64 0] from rfl) (Reps.one (show Kd.M (Kd.int .i64) _ _ _ 9 [.int .i64 9] from rfl) (Reps.one (show Kd.M (Kd.int .i64) _ _ _ 7 [.int .i64 7] from rfl) (Reps.one (show Kd.M (Kd.int .i64) _ _ _ 11 [.int .i64 11] from rfl) (Reps.one (show Kd.M (Kd.int .i64) _ _ _ 11 [.int .i64 11] from rfl) (Reps.one (show Kd.M (Kd.int .i64) _ _ _ 14 [.int .i64 14] from rfl) (Reps.one (show Kd.M (Kd.int .i64) _ _ _ 15 [.int .i64 15] from rfl) (Reps.one (show Kd.M (Kd.int .i64) _ _ _ 10 [.int .i64 10] from rfl) (Reps.one (show Kd.M (Kd.int .i64) _ _ _ 8 [.int .i64 8] from rfl) (Reps.one (show Kd.M (Kd.int .i64) _ _ _ 0 [.int .i64 0] from rfl) (Reps.one (show Kd.M (Kd.int .i64) _ _ _ 7 [.int .i64 7] from rfl) (Reps.none _ _)))))))))))));intro v122 w6 ho7 hb hg_ hnew_;clear hg_ hnew_;(first|rw [←Ny121.1] at ho7|(simp only [Int.reduceToNat] at ho7;rw [←Ny121.1] at ho7));have HO123:=zM (Kd.R_lower ho7 (below_size zB3));replace HB:=zM (below_step zB3 hb);clear hb ho7;obtain ⟨Ao8,co8,eo8⟩:=Kd.R_slice HO123.1;subst eo8;obtain ⟨p124,q124,ad124,e124,hx124_0⟩:=zRd (Kd.at_int (Kd.R_reads' HO123.1).2.2 a0);cases e124))
 go_ret
 exact ⟨zE,zB3⟩

/-! ### spec_l8Field: function 101 -/
def spec_l8Field.f (a0:Int) (a1:Int) (a2:Bool):Option (Bool):=(spec_l1In.f a0 0 a1).bind fun t125=>(if t125=true then (if a2=true then (some true) else (some (a0 == 0))) else (some false))
theorem spec_l8Field.calls (a0:Int) (a1:Int) (a2:Bool) (r:Bool) (w:World) (h:spec_l8Field.f a0 a1 a2=some r):
  Calls Try.prog 101 #[.int .i64 a0,.int .i64 a1,.bool a2] w fun e w'=>e= .returned (.bool r)∧Drawn0 w w':=by
 unfold spec_l8Field.f at h
 have H:=h
 clear h
 replace H:=zO H
 obtain ⟨t125,A4,H⟩:=H
 by_cases c5:t125=true
 rotate_left
 ·replace c5:=Bool.eq_false_iff.mpr c5
  subst c5
  rw [if_neg zF] at H
  obtain rfl:=Option.some.inj H
  go_enter Try.func101,Try.ntmps101
  go_wp2_with (first|((with_reducible refine zG Try.func46 9 #[.int .i64 a0,.int .i64 0,.int .i64 a1] ?_);(with_reducible refine (spec_l1In.calls a0 0 a1 false _ A4.1).mono ?_);rintro e w' ⟨rfl,⟨nd,rfl⟩⟩;refine ⟨_,rfl,?_⟩))
  go_ret
  exact ⟨zJJ,zDD⟩
 subst c5
 rw [if_pos rfl] at H
 by_cases c6:a2=true
 ·subst c6
  rw [if_pos rfl] at H
  obtain rfl:=Option.some.inj H
  go_enter Try.func101,Try.ntmps101
  go_wp2_with (first|((with_reducible refine zG Try.func46 9 #[.int .i64 a0,.int .i64 0,.int .i64 a1] ?_);(with_reducible refine (spec_l1In.calls a0 0 a1 true _ A4.1).mono ?_);rintro e w' ⟨rfl,⟨nd,rfl⟩⟩;refine ⟨_,rfl,?_⟩))
  go_ret
  exact ⟨zJJ,zDD⟩
 replace c6:=Bool.eq_false_iff.mpr c6
 subst c6
 rw [if_neg zF] at H
 obtain rfl:=Option.some.inj H
 go_enter Try.func101,Try.ntmps101
 go_wp2_with (first|((with_reducible refine zG Try.func46 9 #[.int .i64 a0,.int .i64 0,.int .i64 a1] ?_);(with_reducible refine (spec_l1In.calls a0 0 a1 true _ A4.1).mono ?_);rintro e w' ⟨rfl,⟨nd,rfl⟩⟩;refine ⟨_,rfl,?_⟩))
 go_ret
 exact ⟨zJJ,zDD⟩

/-! ### spec_InsOk: function 66 -/
def spec_InsOk.f (a0_0:Int) (a0_1:Int) (a0_2:Int) (a0_3:Int) (a0_4:Int):Option (Bool):=(spec_l8Has.f a0_0).bind fun t127=>((spec_l1In.f a0_0 1 10).bind fun t128=>(if t128=true then ((spec_l8Field.f a0_1 3 ((Go.bits .and .i64 t127 1) != 0)).bind fun t129=>(if t129=true then ((spec_l8Field.f a0_2 3 ((Go.bits .and .i64 t127 2) != 0)).bind fun t130=>(if t130=true then ((spec_l8Field.f a0_3 3 ((Go.bits .and .i64 t127 4) != 0)).bind fun t131=>(if t131=true then ((spec_l8Field.f a0_4 63 ((Go.bits .and .i64 t127 8) != 0)).bind fun t132=>(some t132)) else (some false))) else (some false))) else (some false))) else (some false)))
theorem spec_InsOk.calls (a0_0:Int) (a0_1:Int) (a0_2:Int) (a0_3:Int) (a0_4:Int) (r:Bool) (w:World) (h:spec_InsOk.f a0_0 a0_1 a0_2 a0_3 a0_4=some r):
  Calls Try.prog 66 #[.agg #[.int .i64 a0_0,.int .i64 a0_1,.int .i64 a0_2,.int .i64 a0_3,.int .i64 a0_4]] w fun e w'=>e= .returned (.bool r)∧Below w.heap.size w w':=by
 have hu57:=Try.underlying57
 have HB:=zM (Below.refl w.heap.size w)
 unfold spec_InsOk.f at h
 have H:=h
 clear h
 replace H:=zO H
 obtain ⟨t127,A2,H⟩:=H
 replace H:=zO H
 obtain ⟨t128,A3,H⟩:=H
 by_cases c4:t128=true
 rotate_left
 ·replace c4:=Bool.eq_false_iff.mpr c4
  subst c4
  rw [if_neg zF] at H
  obtain rfl:=Option.some.inj H
  go_enter Try.func66,Try.ntmps66
  go_wp2_with (first|((with_reducible refine zBx 1 57 #[.int .i64 a0_0,.int .i64 a0_1,.int .i64 a0_2,.int .i64 a0_3,.int .i64 a0_4] ?_);intro gb126 hg w28 hbox hb;have BK126:=zM hbox;have GW126:=zM (zW hg (below_size zB3));have GE126:=zM (zW hg (below_size zB3));replace HB:=zM (below_step zB3 hb);clear hb hbox hg;have hcz29:=zc_5 (w:=w28) BK126.1)|((with_reducible refine zG Try.func100 6 #[.int .i64 a0_0] ?_);(with_reducible refine (spec_l8Has.calls a0_0 t127 _ A2.1).mono ?_);rintro e w30 ⟨rfl,hb⟩;refine ⟨_,rfl,?_⟩;replace BK126:=zM (zb BK126.1 hb);replace HB:=zM (below_step zB3 hb);clear hb;have hcz31:=zc_5 (w:=w30) BK126.1)|((with_reducible refine zG Try.func46 9 #[.int .i64 a0_0,.int .i64 1,.int .i64 10] ?_);(with_reducible refine (spec_l1In.calls a0_0 1 10 false _ A3.1).mono ?_);rintro e w' ⟨rfl,⟨nd,rfl⟩⟩;refine ⟨_,rfl,?_⟩))
  go_ret
  exact ⟨zE,zB3⟩
 subst c4
 rw [if_pos rfl] at H
 replace H:=zO H
 obtain ⟨t129,A5,H⟩:=H
 by_cases c6:t129=true
 rotate_left
 ·replace c6:=Bool.eq_false_iff.mpr c6
  subst c6
  rw [if_neg zF] at H
  obtain rfl:=Option.some.inj H
  go_enter Try.func66,Try.ntmps66
  go_wp2_with (first|((with_reducible refine zBx 1 57 #[.int .i64 a0_0,.int .i64 a0_1,.int .i64 a0_2,.int .i64 a0_3,.int .i64 a0_4] ?_);intro gb126 hg w24 hbox hb;have BK126:=zM hbox;have GW126:=zM (zW hg (below_size zB3));have GE126:=zM (zW hg (below_size zB3));replace HB:=zM (below_step zB3 hb);clear hb hbox hg;have hcz25:=zc_5 (w:=w24) BK126.1)|((with_reducible refine zG Try.func100 6 #[.int .i64 a0_0] ?_);(with_reducible refine (spec_l8Has.calls a0_0 t127 _ A2.1).mono ?_);rintro e w26 ⟨rfl,hb⟩;refine ⟨_,rfl,?_⟩;replace BK126:=zM (zb BK126.1 hb);replace HB:=zM (below_step zB3 hb);clear hb;have hcz27:=zc_5 (w:=w26) BK126.1)|((with_reducible refine zG Try.func46 9 #[.int .i64 a0_0,.int .i64 1,.int .i64 10] ?_);(with_reducible refine (spec_l1In.calls a0_0 1 10 true _ A3.1).mono ?_);rintro e w' ⟨rfl,⟨nd,rfl⟩⟩;refine ⟨_,rfl,?_⟩)|(go_at_call 101;(with_reducible refine (spec_l8Field.calls a0_1 3 ((Go.bits .and .i64 t127 1) != 0) false _ A5.1).mono ?_);rintro e w' ⟨rfl,⟨nd,rfl⟩⟩))
  go_ret
  exact ⟨zE,zB3⟩
 subst c6
 rw [if_pos rfl] at H
 replace H:=zO H
 obtain ⟨t130,A7,H⟩:=H
 by_cases c8:t130=true
 rotate_left
 ·replace c8:=Bool.eq_false_iff.mpr c8
  subst c8
  rw [if_neg zF] at H
  obtain rfl:=Option.some.inj H
  go_enter Try.func66,Try.ntmps66
  go_wp2_with (first|((with_reducible refine zBx 1 57 #[.int .i64 a0_0,.int .i64 a0_1,.int .i64 a0_2,.int .i64 a0_3,.int .i64 a0_4] ?_);intro gb126 hg w20 hbox hb;have BK126:=zM hbox;have GW126:=zM (zW hg (below_size zB3));have GE126:=zM (zW hg (below_size zB3));replace HB:=zM (below_step zB3 hb);clear hb hbox hg;have hcz21:=zc_5 (w:=w20) BK126.1)|((with_reducible refine zG Try.func100 6 #[.int .i64 a0_0] ?_);(with_reducible refine (spec_l8Has.calls a0_0 t127 _ A2.1).mono ?_);rintro e w22 ⟨rfl,hb⟩;refine ⟨_,rfl,?_⟩;replace BK126:=zM (zb BK126.1 hb);replace HB:=zM (below_step zB3 hb);clear hb;have hcz23:=zc_5 (w:=w22) BK126.1)|((with_reducible refine zG Try.func46 9 #[.int .i64 a0_0,.int .i64 1,.int .i64 10] ?_);(with_reducible refine (spec_l1In.calls a0_0 1 10 true _ A3.1).mono ?_);rintro e w' ⟨rfl,⟨nd,rfl⟩⟩;refine ⟨_,rfl,?_⟩)|(go_at_call 101;(with_reducible refine (spec_l8Field.calls a0_1 3 ((Go.bits .and .i64 t127 1) != 0) true _ A5.1).mono ?_);rintro e w' ⟨rfl,⟨nd,rfl⟩⟩)|(go_at_call 101;(with_reducible refine (spec_l8Field.calls a0_2 3 ((Go.bits .and .i64 t127 2) != 0) false _ A7.1).mono ?_);rintro e w' ⟨rfl,⟨nd,rfl⟩⟩))
  go_ret
  exact ⟨zE,zB3⟩
 subst c8
 rw [if_pos rfl] at H
 replace H:=zO H
 obtain ⟨t131,A9,H⟩:=H
 by_cases c10:t131=true
 rotate_left
 ·replace c10:=Bool.eq_false_iff.mpr c10
  subst c10
  rw [if_neg zF] at H
  obtain rfl:=Option.some.inj H
  go_enter Try.func66,Try.ntmps66
  go_wp2_with (first|((with_reducible refine zBx 1 57 #[.int .i64 a0_0,.int .i64 a0_1,.int .i64 a0_2,.int .i64 a0_3,.int .i64 a0_4] ?_);intro gb126 hg w16 hbox hb;have BK126:=zM hbox;have GW126:=zM (zW hg (below_size zB3));have GE126:=zM (zW hg (below_size zB3));replace HB:=zM (below_step zB3 hb);clear hb hbox hg;have hcz17:=zc_5 (w:=w16) BK126.1)|((with_reducible refine zG Try.func100 6 #[.int .i64 a0_0] ?_);(with_reducible refine (spec_l8Has.calls a0_0 t127 _ A2.1).mono ?_);rintro e w18 ⟨rfl,hb⟩;refine ⟨_,rfl,?_⟩;replace BK126:=zM (zb BK126.1 hb);replace HB:=zM (below_step zB3 hb);clear hb;have hcz19:=zc_5 (w:=w18) BK126.1)|((with_reducible refine zG Try.func46 9 #[.int .i64 a0_0,.int .i64 1,.int .i64 10] ?_);(with_reducible refine (spec_l1In.calls a0_0 1 10 true _ A3.1).mono ?_);rintro e w' ⟨rfl,⟨nd,rfl⟩⟩;refine ⟨_,rfl,?_⟩)|(go_at_call 101;(with_reducible refine (spec_l8Field.calls a0_1 3 ((Go.bits .and .i64 t127 1) != 0) true _ A5.1).mono ?_);rintro e w' ⟨rfl,⟨nd,rfl⟩⟩)|(go_at_call 101;(with_reducible refine (spec_l8Field.calls a0_2 3 ((Go.bits .and .i64 t127 2) != 0) true _ A7.1).mono ?_);rintro e w' ⟨rfl,⟨nd,rfl⟩⟩)|(go_at_call 101;(with_reducible refine (spec_l8Field.calls a0_3 3 ((Go.bits .and .i64 t127 4) != 0) false _ A9.1).mono ?_);rintro e w' ⟨rfl,⟨nd,rfl⟩⟩))
  go_ret
  exact ⟨zE,zB3⟩
 subst c10
 rw [if_pos rfl] at H
 replace H:=zO H
 obtain ⟨t132,A11,H⟩:=H
 obtain rfl:=Option.some.inj H
 go_enter Try.func66,Try.ntmps66
 go_wp2_with (first|((with_reducible refine zBx 1 57 #[.int .i64 a0_0,.int .i64 a0_1,.int .i64 a0_2,.int .i64 a0_3,.int .i64 a0_4] ?_);intro gb126 hg w12 hbox hb;have BK126:=zM hbox;have GW126:=zM (zW hg (below_size zB3));have GE126:=zM (zW hg (below_size zB3));replace HB:=zM (below_step zB3 hb);clear hb hbox hg;have hcz13:=zc_5 (w:=w12) BK126.1)|((with_reducible refine zG Try.func100 6 #[.int .i64 a0_0] ?_);(with_reducible refine (spec_l8Has.calls a0_0 t127 _ A2.1).mono ?_);rintro e w14 ⟨rfl,hb⟩;refine ⟨_,rfl,?_⟩;replace BK126:=zM (zb BK126.1 hb);replace HB:=zM (below_step zB3 hb);clear hb;have hcz15:=zc_5 (w:=w14) BK126.1)|((with_reducible refine zG Try.func46 9 #[.int .i64 a0_0,.int .i64 1,.int .i64 10] ?_);(with_reducible refine (spec_l1In.calls a0_0 1 10 true _ A3.1).mono ?_);rintro e w' ⟨rfl,⟨nd,rfl⟩⟩;refine ⟨_,rfl,?_⟩)|(go_at_call 101;(with_reducible refine (spec_l8Field.calls a0_1 3 ((Go.bits .and .i64 t127 1) != 0) true _ A5.1).mono ?_);rintro e w' ⟨rfl,⟨nd,rfl⟩⟩)|(go_at_call 101;(with_reducible refine (spec_l8Field.calls a0_2 3 ((Go.bits .and .i64 t127 2) != 0) true _ A7.1).mono ?_);rintro e w' ⟨rfl,⟨nd,rfl⟩⟩)|(go_at_call 101;(with_reducible refine (spec_l8Field.calls a0_3 3 ((Go.bits .and .i64 t127 4) != 0) true _ A9.1).mono ?_);rintro e w' ⟨rfl,⟨nd,rfl⟩⟩)|(go_at_call 101;(with_reducible refine (spec_l8Field.calls a0_4 63 ((Go.bits .and .i64 t127 8) != 0) t132 _ A11.1).mono ?_);rintro e w' ⟨rfl,⟨nd,rfl⟩⟩))
 go_ret
 exact ⟨zE,zB3⟩

/-! ### spec_Code: function 57 -/
def spec_Code.f (a0_0:Int) (a0_1:Int) (a0_2:Int) (a0_3:Int) (a0_4:Int):Option (Int×Bool):=(spec_InsOk.f a0_0 a0_1 a0_2 a0_3 a0_4).bind fun t134=>(if t134=true then (some (wrap64 ((wrap64 ((wrap64 ((wrap64 (a0_0+(wrap64 (16*a0_1))))+(wrap64 (64*a0_2))))+(wrap64 (256*a0_3))))+(wrap64 (1024*a0_4))),true)) else (some (0,false)))
theorem spec_Code.calls (a0_0:Int) (a0_1:Int) (a0_2:Int) (a0_3:Int) (a0_4:Int) (r1:Int) (r2:Bool) (w:World) (h:spec_Code.f a0_0 a0_1 a0_2 a0_3 a0_4=some (r1,r2)):
  Calls Try.prog 57 #[.agg #[.int .i64 a0_0,.int .i64 a0_1,.int .i64 a0_2,.int .i64 a0_3,.int .i64 a0_4]] w fun e w'=>e= .returned (.tuple #[.int .i64 r1,.bool r2])∧Below w.heap.size w w':=by
 have hu57:=Try.underlying57
 have HB:=zM (Below.refl w.heap.size w)
 unfold spec_Code.f at h
 have H:=h
 clear h
 replace H:=zO H
 obtain ⟨t134,A2,H⟩:=H
 by_cases c3:t134=true
 rotate_left
 ·replace c3:=Bool.eq_false_iff.mpr c3
  subst c3
  rw [if_neg zF] at H
  simp only [Option.some.injEq,Prod.mk.injEq] at H
  obtain ⟨rfl,rfl⟩:=H
  go_enter Try.func57,Try.ntmps57
  go_wp2_with (first|((with_reducible refine zBx 1 57 #[.int .i64 a0_0,.int .i64 a0_1,.int .i64 a0_2,.int .i64 a0_3,.int .i64 a0_4] ?_);intro gb133 hg w8 hbox hb;have BK133:=zM hbox;have GW133:=zM (zW hg (below_size zB3));have GE133:=zM (zW hg (below_size zB3));replace HB:=zM (below_step zB3 hb);clear hb hbox hg;have hcz9:=zc_5 (w:=w8) BK133.1)|((with_reducible refine zG Try.func66 5 #[.agg #[.int .i64 a0_0,.int .i64 a0_1,.int .i64 a0_2,.int .i64 a0_3,.int .i64 a0_4]] ?_);(with_reducible refine (spec_InsOk.calls a0_0 a0_1 a0_2 a0_3 a0_4 false _ A2.1).mono ?_);rintro e w10 ⟨rfl,hb⟩;refine ⟨_,rfl,?_⟩;replace BK133:=zM (zb BK133.1 hb);replace HB:=zM (below_step zB3 hb);clear hb))
  go_ret2
  exact ⟨zE,zB3⟩
 subst c3
 rw [if_pos rfl] at H
 simp only [Option.some.injEq,Prod.mk.injEq] at H
 obtain ⟨rfl,rfl⟩:=H
 go_enter Try.func57,Try.ntmps57
 go_wp2_with (first|((with_reducible refine zBx 1 57 #[.int .i64 a0_0,.int .i64 a0_1,.int .i64 a0_2,.int .i64 a0_3,.int .i64 a0_4] ?_);intro gb133 hg w4 hbox hb;have BK133:=zM hbox;have GW133:=zM (zW hg (below_size zB3));have GE133:=zM (zW hg (below_size zB3));replace HB:=zM (below_step zB3 hb);clear hb hbox hg;have hcz5:=zc_5 (w:=w4) BK133.1)|((with_reducible refine zG Try.func66 5 #[.agg #[.int .i64 a0_0,.int .i64 a0_1,.int .i64 a0_2,.int .i64 a0_3,.int .i64 a0_4]] ?_);(with_reducible refine (spec_InsOk.calls a0_0 a0_1 a0_2 a0_3 a0_4 true _ A2.1).mono ?_);rintro e w6 ⟨rfl,hb⟩;refine ⟨_,rfl,?_⟩;replace BK133:=zM (zb BK133.1 hb);replace HB:=zM (below_step zB3 hb);clear hb;have hcz7:=zc_5 (w:=w6) BK133.1))
 go_ret2
 exact ⟨zE,zB3⟩

/-! ### spec_l1PickInt: function 84 -/
def spec_l1PickInt.f (s0_0:List Int) (s0_1:Int) (s0_2:Int) (l1:List Int):Option (Int×Int×Int):=(spec_l1Below.f s0_0 s0_1 s0_2 (l1.length:Int)).bind fun bt135=>(if 0≤bt135.1 then (if bt135.1<(l1.length:Int) then (some (rd l1 bt135.1,bt135.2.1,bt135.2.2)) else (none)) else (none))
theorem spec_l1PickInt.calls (g:Nat) (s0_0:List Int) (s0_1:Int) (s0_2:Int) (A1:Option Addr) (c1:Nat) (l1:List Int) (r1:Int) (r2:Int) (r3:Int) (w0 w:World) (hI:IsS104 w0 w g s0_0 s0_1 s0_2) (hB:Below w0.heap.size w0 w) (hr1:Kd.C (Kd.int .i64) w A1 l1.length l1) (hc1:l1.length≤c1) (hf1: ∀ad,A1=some ad→0<l1.length→ad.block≠g) (h:spec_l1PickInt.f s0_0 s0_1 s0_2 l1=some (r1,r2,r3)):
  Calls Try.prog 84 #[.pointer (some ⟨g,0,none⟩),.slice A1 l1.length c1] w fun e w'=>e= .returned (.int .i64 r1)∧IsS104 w0 w' g s0_0 r2 r3∧Below w0.heap.size w0 w'∧KeepBut w w' g none:=by
 have HR1:=zM hr1
 have HC1:=zM hc1
 clear hr1 hc1
 have HI0:=zM hI
 have HK:=zM (KeepBut.refl w g none)
 have HL:=zM hB.size
 clear hI
 have HW0:=zM hB.size
 have HB:=zM hB
 clear hB
 unfold spec_l1PickInt.f at h
 have H:=h
 clear h
 replace H:=zO H
 obtain ⟨⟨t135,t136,t137⟩,A3,H⟩:=H
 try dsimp only at H
 replace H:=zIt H
 obtain ⟨c4b0,H⟩:=H
 replace H:=zIt H
 obtain ⟨c5b0,H⟩:=H
 simp only [Option.some.injEq,Prod.mk.injEq] at H
 obtain ⟨rfl,rfl,rfl⟩:=H
 go_enter Try.func84,Try.ntmps84
 go_wp2_with (first|((with_reducible refine zG Try.func43 9 #[.pointer (some ⟨g,0,none⟩),.int .i64 (l1.length:Int)] ?_);(with_reducible refine (spec_l1Below.calls g s0_0 s0_1 s0_2 (l1.length:Int) t135 t136 t137 w0 _ ?side1 ?side2 A3.1).mono ?_);(case side1=>exact zB0);(case side2=>exact zB1);rintro e w6 ⟨rfl,hi,hb,hk⟩;refine ⟨_,rfl,?_⟩;replace HK:=zM (KeepBut.trans zB2 hk (.inl rfl));replace HB:=zM hb;replace HI0:=zM hi;clear hb hk hi;have p138:0≤(t135:Int):=zA;have q138:t135<(l1.length:Int):=zA;obtain ⟨ad138,e138,hx138_0⟩:=Kd.at_int HR1.1 t135 p138 q138;cases e138;replace hx138_0:=keep_cell HK.1 hx138_0 (by first|(rw [add_block];exact hf1 _ rfl (by omega))|exact hf1 _ rfl (by omega)|exact hf1 ad138 rfl (by omega));replace p138:=eq_true p138;replace q138:=eq_true q138))
 go_ret
 exact ⟨zE,zB0,zB1,zB2⟩

end Go.Proofs.Ytaakcbgpmabaaaa.PFnSeen
