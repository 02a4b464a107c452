-- made by wip/tools/myprint.py out of the seat's translation
import Derived.Test.YtpcgecacaemalaaPFnStopsx0
namespace Go.Proofs.Ytpcgecacaemalaa.PFnStops
open Go.RowKit Go.Proofs.YtpcgecacaemalaaW.PrintWords Go.Proofs.YtpcgecacaemalaaW.PrintLast Go.Proofs.YtpcgecacaemalaaW.PrintMore
attribute [local go_sem] max2_int min2_int max_two min_two max_three min_three max_four min_four -- for this text's walks alone
set_option linter.unusedVariables false
set_option linter.unusedSimpArgs false
set_option maxHeartbeats 8000000
set_option maxRecDepth 100000

/-! ### laws_big: function 7 -/
def laws_big.f (l0:List Int):Option (Bool):=some (decide ((l0.length:Int)>1048576))
theorem laws_big.calls (A0:Option Addr) (c0:Nat) (l0:List Int) (r:Bool) (w:World) (hr0:Kd.C (Kd.int .u8) w A0 l0.length l0) (hc0:l0.length≤c0) (h:laws_big.f l0=some r):
  Calls Try.prog 7 #[.slice A0 l0.length c0] w fun e w'=>e= .returned (.bool r)∧Drawn0 w w':=by
 have HR0:=zM hr0
 have HC0:=zM hc0
 clear hr0 hc0
 unfold laws_big.f at h
 have H:=h
 clear h
 obtain rfl:=Option.some.inj H
 go_enter Try.func7,Try.ntmps7
 go_wp2
 go_ret
 exact ⟨zJJ,zDD⟩

/-- A state of type 106 at block g of W; what its slices lead to came in by w0. -/
def IsS106 (w0 W:World) (g:Nat) (f0:List Int) (f1:Int) (f2:Int):Prop:=∃A0 c0,W.heap[g]? =some (.cells #[.slice A0 f0.length c0,.int .i64 f1,.int .i64 f2] 106 (0,0))∧w0.heap.size≤g∧Kd.C (Kd.int .u8) w0 A0 f0.length f0
theorem IsS106.grown {w0 W:World} {g:Nat} {f0:List Int} {f1:Int} {f2:Int} {W1:World} {row:Option Nat} (h:IsS106 w0 W g f0 f1 f2) (hw:W.grownBy W1 row) (hne:some g≠row):IsS106 w0 W1 g f0 f1 f2:=by
 obtain ⟨A0,c0,hb,hg,hr0⟩:=h
 exact ⟨A0,c0,blk_grown hb hw hne,hg,hr0⟩
theorem IsS106.own_neN {w0 W:World} {g:Nat} {f0:List Int} {f1:Int} {f2:Int} {α:Type} {d:Kd α} {e:Nat} {base:Nat} {ok:Nat→Prop} {v:Value} {xs:List α} (h:IsS106 w0 W g f0 f1 f2) (ho:Kd.N d e W base ok v xs) (ht:e≠106):some g≠v.ownBlock:=by
 obtain ⟨A0,c0,hb,hg,hr0⟩:=h
 exact Kd.N_ne ho hb ht
theorem IsS106.fresh {w0 W:World} {g:Nat} {f0:List Int} {f1:Int} {f2:Int} (h:IsS106 w0 W g f0 f1 f2): ∀k,W.heap.size≤k→k≠g:=by
 obtain ⟨A0,c0,hb,hg,hr0⟩:=h
 exact Kd.freshB hb
theorem IsS106.kept {w0 W:World} {g:Nat} {f0:List Int} {f1:Int} {f2:Int} {W1:World} {S:Nat→Prop} (h:IsS106 w0 W g f0 f1 f2) (hk:Kept W W1 S) (hne: ¬S g):IsS106 w0 W1 g f0 f1 f2:=by
 obtain ⟨A0,c0,hb,hg,hr0⟩:=h
 exact ⟨A0,c0,blk_kept hb hk hne,hg,hr0⟩
theorem IsS106.below {w0 W:World} {g:Nat} {f0:List Int} {f1:Int} {f2:Int} {W1:World} (h:IsS106 w0 W g f0 f1 f2) (hw:Below W.heap.size W W1):IsS106 w0 W1 g f0 f1 f2:=h.grown (grown_of_below hw none) (by simp)
theorem IsS106.alloc {w0 W:World} {g:Nat} {f0:List Int} {f1:Int} {f2:Int} (h:IsS106 w0 W g f0 f1 f2) (o:Obj):IsS106 w0 (W.alloc o) g f0 f1 f2:=h.below (below_alloc (Below.refl _ _) o)
theorem IsS106.drewN {w0 W:World} {g:Nat} {f0:List Int} {f1:Int} {f2:Int} (h:IsS106 w0 W g f0 f1 f2) (m:Nat):IsS106 w0 (W.drewN m) g f0 f1 f2:=h
theorem IsS106.drew {w0 W:World} {g:Nat} {f0:List Int} {f1:Int} {f2:Int} (h:IsS106 w0 W g f0 f1 f2):IsS106 w0 W.drew g f0 f1 f2:=h
theorem IsS106.at_ {w0 W:World} {g:Nat} {f0:List Int} {f1:Int} {f2:Int} {w':World} {m:Nat} (hq:W.drewN m=w') (h:IsS106 w0 W g f0 f1 f2):IsS106 w0 w' g f0 f1 f2:=by subst hq;exact IsS106.drewN h m
theorem IsS106.apart {w0 W:World} {g:Nat} {f0:List Int} {f1:Int} {f2:Int} {α:Type} {d:Kd α} {e:Nat} {base:Nat} {ok:Nat→Prop} {v:Value} {xs:List α} (h:IsS106 w0 W g f0 f1 f2) (ho:d.R e W base ok v xs) (ht: ∀q,q∈e :: d.E→q≠106):d.R e W base (fun k=>ok k∧k≠g) v xs:=by
 obtain ⟨A0,c0,hb,hg,hr0⟩:=h
 exact Kd.R_types ho hb ht
theorem IsS106.own_ne {w0 W:World} {g:Nat} {f0:List Int} {f1:Int} {f2:Int} {α:Type} {d:Kd α} {e:Nat} {base:Nat} {ok:Nat→Prop} {v:Value} {xs:List α} (h:IsS106 w0 W g f0 f1 f2) (ho:d.R e W base ok v xs) (ht:e≠106):some g≠v.ownBlock:=by
 obtain ⟨A0,c0,hb,hg,hr0⟩:=h
 exact Kd.R_ne ho hb ht
theorem IsS106.apartQ {w0 W:World} {g:Nat} {f0:List Int} {f1:Int} {f2:Int} {α:Type} {d:Kd α} {e:Nat} {base:Nat} {ok:Nat→Prop} {v:Value} {xs:List α} (h:IsS106 w0 W g f0 f1 f2) (ho:d.Q e W base ok v xs) (ht: ∀q,q∈e :: d.E→q≠106):d.Q e W base (fun k=>ok k∧k≠g) v xs:=by
 obtain ⟨A0,c0,hb,hg,hr0⟩:=h
 exact Kd.Q_types ho hb ht
theorem IsS106.own_neQ {w0 W:World} {g:Nat} {f0:List Int} {f1:Int} {f2:Int} {α:Type} {d:Kd α} {e:Nat} {base:Nat} {ok:Nat→Prop} {v:Value} {xs:List α} (h:IsS106 w0 W g f0 f1 f2) (ho:d.Q e W base ok v xs) (ht:e≠106):some g≠v.ownBlock:=by
 obtain ⟨A0,c0,hb,hg,hr0⟩:=h
 exact Kd.Q_ne ho hb ht
theorem IsS106.apartS {w0 W:World} {g:Nat} {f0:List Int} {f1:Int} {f2:Int} {α:Type} {d:Kd α} {e:Nat} {base:Nat} {ok:Nat→Prop} {v:Value} {xs:List α} (h:IsS106 w0 W g f0 f1 f2) (ho:d.S e W base ok v xs) (ht: ∀q,q∈e :: d.E→q≠106):d.S e W base (fun k=>ok k∧k≠g) v xs:=by
 obtain ⟨A0,c0,hb,hg,hr0⟩:=h
 exact Kd.S_types ho hb ht
theorem IsS106.own_neS {w0 W:World} {g:Nat} {f0:List Int} {f1:Int} {f2:Int} {α:Type} {d:Kd α} {e:Nat} {base:Nat} {ok:Nat→Prop} {v:Value} {xs:List α} (h:IsS106 w0 W g f0 f1 f2) (ho:d.S e W base ok v xs) (ht:e≠106):some g≠v.ownBlock:=by
 obtain ⟨A0,c0,hb,hg,hr0⟩:=h
 exact Kd.S_ne ho hb ht
theorem IsS106.lt {w0 W:World} {g:Nat} {f0:List Int} {f1:Int} {f2:Int} (h:IsS106 w0 W g f0 f1 f2):g<W.heap.size:=by
 obtain ⟨A0,c0,hb,hg,hr0⟩:=h
 exact blk_lt hb
theorem IsS106.ge {w0 W:World} {g:Nat} {f0:List Int} {f1:Int} {f2:Int} (h:IsS106 w0 W g f0 f1 f2):w0.heap.size≤g:=by
 obtain ⟨A0,c0,hb,hg,hr0⟩:=h
 exact hg
theorem IsS106.ne_blk {w0 W:World} {g:Nat} {f0:List Int} {f1:Int} {f2:Int} {a:Nat} {cs:Array Value} {t:TypeId} {fr:Nat×Nat} (h:IsS106 w0 W g f0 f1 f2) (hb2:W.heap[a]? =some (.cells cs t fr)) (ht:t≠106):g≠a:=by
 obtain ⟨A0,c0,hb,hg,hr0⟩:=h
 rintro rfl
 rw [hb] at hb2
 injection hb2 with hb2
 injection hb2 with _ ht2
 exact ht ht2.symm
theorem IsS106.far {w0 W:World} {g:Nat} {f0:List Int} {f1:Int} {f2:Int} {p:Addr} (h:IsS106 w0 W g f0 f1 f2) (hne:g≠p.block) (u:Value):IsS106 w0 (W.setCell p u) g f0 f1 f2:=by
 obtain ⟨A0,c0,hb,hg,hr0⟩:=h
 exact ⟨A0,c0,blk_far hb hne u,hg,hr0⟩
theorem cellS106_0 {W:World} {g:Nat} {A0:Option Addr} {c0:Nat} {f0:List Int} {f1:Int} {f2:Int} (h:W.heap[g]? =some (.cells #[.slice A0 f0.length c0,.int .i64 f1,.int .i64 f2] 106 (0,0))):W.cell? ⟨g,0,none⟩=some (.slice A0 f0.length c0):=(blk_cell h 0).trans rfl
theorem cellS106_1 {W:World} {g:Nat} {A0:Option Addr} {c0:Nat} {f0:List Int} {f1:Int} {f2:Int} (h:W.heap[g]? =some (.cells #[.slice A0 f0.length c0,.int .i64 f1,.int .i64 f2] 106 (0,0))):W.cell? ⟨g,1,none⟩=some (.int .i64 f1):=(blk_cell h 1).trans rfl
theorem IsS106.set_1 {w0 W:World} {g:Nat} {f0:List Int} {f1:Int} {f2:Int} (h:IsS106 w0 W g f0 f1 f2) (x:Int):IsS106 w0 (W.setCell ⟨g,1,none⟩ (.int .i64 x)) g f0 x f2:=by
 obtain ⟨A0,c0,hb,hg,hr0⟩:=h
 exact ⟨A0,c0,by simpa using blk_set hb 1 (.int .i64 x),hg,hr0⟩
theorem cellS106_2 {W:World} {g:Nat} {A0:Option Addr} {c0:Nat} {f0:List Int} {f1:Int} {f2:Int} (h:W.heap[g]? =some (.cells #[.slice A0 f0.length c0,.int .i64 f1,.int .i64 f2] 106 (0,0))):W.cell? ⟨g,2,none⟩=some (.int .i64 f2):=(blk_cell h 2).trans rfl
theorem IsS106.set_2 {w0 W:World} {g:Nat} {f0:List Int} {f1:Int} {f2:Int} (h:IsS106 w0 W g f0 f1 f2) (x:Int):IsS106 w0 (W.setCell ⟨g,2,none⟩ (.int .i64 x)) g f0 f1 x:=by
 obtain ⟨A0,c0,hb,hg,hr0⟩:=h
 exact ⟨A0,c0,by simpa using blk_set hb 2 (.int .i64 x),hg,hr0⟩
theorem IsS106.new (w0 W:World) (A0:Option Addr) (c0:Nat) (f0:List Int) (f1:Int) (f2:Int) (hB:Below w0.heap.size w0 W) (hr0:Kd.C (Kd.int .u8) w0 A0 f0.length f0):IsS106 w0 (W.alloc (.cells #[.slice A0 f0.length c0,.int .i64 f1,.int .i64 f2] 106)) W.heap.size f0 f1 f2:=⟨A0,c0,by simpa using heap_alloc_new W _,hB.size,hr0⟩

/-! ### spec_l1New: function 54 -/
def spec_l1New.l0:Nat→List Int→Int→Int→Option (List Int×Int×Int)
 |0,_,_,_=>none
 |k+1,x0,x3,x4=>if x4<(x0.length:Int) then (if x4<4000 then (if 0≤x4 then (spec_l1New.l0 k x0 (Go.bits .and .i64 (wrap64 ((wrap64 ((wrap64 (x3*131))+(wrap64 (rd x0 x4))))+7)) 1073741823) (wrap64 (x4+1))) else (none)) else (some (x0,0,x3))) else (some (x0,0,x3))
def spec_l1New.f (k:Nat) (l0:List Int):Option (List Int×Int×Int):=spec_l1New.l0 k l0 (wrap64 (20404+(l0.length:Int))) 0
theorem spec_l1New.mono_l: ∀k,(∀y0 y1 y2,LeO (spec_l1New.l0 k y0 y1 y2) (spec_l1New.l0 (k+1) y0 y1 y2))
 |0=>fun _ _ _ r h=>by simp [spec_l1New.l0] at h
 |k+1=>by
  have ih0:=spec_l1New.mono_l k
  ·intros
   unfold spec_l1New.l0
   exact zL
theorem spec_l1New.mono: ∀a0 k,LeO (spec_l1New.f k a0) (spec_l1New.f (k+1) a0):=by
 intro a0 k
 have ih0:=spec_l1New.mono_l k
 unfold spec_l1New.f
 exact zL
theorem spec_l1New.calls (k:Nat) (A0:Option Addr) (c0:Nat) (l0:List Int) (r1:List Int) (r2:Int) (r3:Int) (w0 w:World) (hB:Below w0.heap.size w0 w) (hr0:Kd.C (Kd.int .u8) w0 A0 l0.length l0) (hc0:l0.length≤c0) (h:spec_l1New.f k l0=some (r1,r2,r3)):
  Calls Try.prog 54 #[.slice A0 l0.length c0] w fun e w'=>∃g_:Nat,e= .returned (.pointer (some ⟨g_,0,none⟩))∧IsS106 w0 w' g_ r1 r2 r3∧Below w0.heap.size w0 w'∧Below w.heap.size w w':=by
 have hu106:=Try.underlying106
 have HR0:=zM hr0
 have HC0:=zM hc0
 clear hr0 hc0
 have HBW:=zM (Below.refl w.heap.size w)
 have HW0:=zM hB.size
 have HB:=zM hB
 clear hB
 unfold spec_l1New.f at h
 have H:=h
 clear h
 have H':=zM H
 clear H
 go_enter Try.func54,Try.ntmps54
 go_wp2
 go_loopg [3,4] k (fun kq v3 v4 w'=>∃(x3_1:Int) (x4_1:Int),v3= .int .i64 x3_1∧v4= .int .i64 x4_1∧Aside0 (spec_l1New.l0 kq l0 x3_1 x4_1=some (r1,r2,r3))∧Aside0 (kq≤k)∧Aside0 (Below w0.heap.size w0 w')∧Aside0 (Below w.heap.size w w'))
 case atStart=>exact ⟨(wrap64 (20404+(l0.length:Int))),(0),zJJ,zJJ,H',⟨Nat.le_refl _⟩,⟨zB0⟩,⟨zB1⟩⟩
 case round=>
  clear H'
  obtain ⟨x3_1,x4_1,rfl,rfl,HA,HK1,HB,HBW⟩:=hrel
  cases gk with
  |zero=>exact absurd HA.1 (by simp [spec_l1New.l0])
  |succ k1=>
   have H:=HA.1
   clear HA
   simp only [spec_l1New.l0] at H
   by_cases c2:x4_1<(l0.length:Int)
   rotate_left
   ·rw [if_neg c2] at H
    have c2b0:=decide_eq_false c2
    clear c2
    simp only [Option.some.injEq,Prod.mk.injEq] at H
    obtain ⟨rfl,rfl,rfl⟩:=H
    go_wp2_with (first|((with_reducible refine zBx 31 106 #[.slice A0 l0.length c0,.int .i64 0,.int .i64 x3_1] ?_);intro gb103 hg w6 hbox hb;replace HB:=zM (below_step zB0 hb);have BK103:=zM hbox;have GW103:=zM (zW hg (below_size zB1));have GE103:=zM ((Nat.le_trans HW0.1 (zW hg (below_size zB1)):w0.heap.size≤gb103));replace HBW:=zM (below_step HBW.out hb);clear hb hbox hg))
    go_ret
    exact ⟨_,rfl,(show IsS106 w0 _ gb103 l0 0 x3_1 from ⟨_,_,zK BK103.1,GE103.1,HR0.1⟩),zB0,zB1⟩
   rw [if_pos c2] at H
   have c2b0:=decide_eq_true c2
   clear c2
   by_cases c3:x4_1<4000
   ·rw [if_pos c3] at H
    have c3b0:=decide_eq_true c3
    clear c3
    replace H:=zIt H
    obtain ⟨c4b0,H⟩:=H
    have H':=zM H
    clear H
    obtain ⟨p101,q101,ad101,e101,hx101_0⟩:=zRd (Kd.at_int HR0.1 x4_1)
    cases e101
    replace hx101_0:=pw_cell_below HB.1 hx101_0
    go_wp2
    go_roundg k1
    case measure=>have:=HK1.1;omega
    case rel=>exact ⟨(Go.bits .and .i64 (wrap64 ((wrap64 ((wrap64 (x3_1*131))+(wrap64 (rd l0 x4_1))))+7)) 1073741823),(wrap64 (x4_1+1)),zJJ,zJJ,H',⟨by have:=HK1.1;omega⟩,⟨zB0⟩,⟨zB1⟩⟩
   rw [if_neg c3] at H
   have c3b0:=decide_eq_false c3
   clear c3
   simp only [Option.some.injEq,Prod.mk.injEq] at H
   obtain ⟨rfl,rfl,rfl⟩:=H
   go_wp2_with (first|((with_reducible refine zBx 31 106 #[.slice A0 l0.length c0,.int .i64 0,.int .i64 x3_1] ?_);intro gb102 hg w5 hbox hb;replace HB:=zM (below_step zB0 hb);have BK102:=zM hbox;have GW102:=zM (zW hg (below_size zB1));have GE102:=zM ((Nat.le_trans HW0.1 (zW hg (below_size zB1)):w0.heap.size≤gb102));replace HBW:=zM (below_step HBW.out hb);clear hb hbox hg))
   go_ret
   exact ⟨_,rfl,(show IsS106 w0 _ gb102 l0 0 x3_1 from ⟨_,_,zK BK102.1,GE102.1,HR0.1⟩),zB0,zB1⟩

/-! ### spec_l1Byte: function 116 -/
def spec_l1Byte.f (s0_0:List Int) (s0_1:Int) (s0_2:Int):Option (Int×Int×Int):=if s0_1<(s0_0.length:Int) then (if 0≤s0_1 then (some (Go.bits .and .i64 (wrap64 ((Go.bits .and .i64 (Go.bits .xor .i64 ((wrap64 ((wrap64 (s0_2*6364136223846793005))+1442695040888963407)) / 8589934592) ((wrap64 ((wrap64 (s0_2*6364136223846793005))+1442695040888963407)) / 35184372088832)) 255)+(wrap64 (rd s0_0 s0_1)))) 255,wrap64 (s0_1+1),wrap64 ((wrap64 (s0_2*6364136223846793005))+1442695040888963407))) else (none)) else (some (Go.bits .and .i64 (Go.bits .xor .i64 ((wrap64 ((wrap64 (s0_2*6364136223846793005))+1442695040888963407)) / 8589934592) ((wrap64 ((wrap64 (s0_2*6364136223846793005))+1442695040888963407)) / 35184372088832)) 255,s0_1,wrap64 ((wrap64 (s0_2*6364136223846793005))+1442695040888963407)))
theorem spec_l1Byte.calls (g:Nat) (s0_0:List Int) (s0_1:Int) (s0_2:Int) (r1:Int) (r2:Int) (r3:Int) (w0 w:World) (hI:IsS106 w0 w g s0_0 s0_1 s0_2) (hB:Below w0.heap.size w0 w) (h:spec_l1Byte.f s0_0 s0_1 s0_2=some (r1,r2,r3)):
  Calls Try.prog 116 #[.pointer (some ⟨g,0,none⟩)] w fun e w'=>e= .returned (.int .i64 r1)∧IsS106 w0 w' g s0_0 r2 r3∧Below w0.heap.size w0 w'∧KeepBut w w' g none:=by
 have HI0:=zM hI
 have HK:=zM (KeepBut.refl w g none)
 have HL:=zM hB.size
 clear hI
 have HW0:=zM hB.size
 have HB:=zM hB
 clear hB
 unfold spec_l1Byte.f at h
 have H:=h
 clear h
 by_cases c2:s0_1<(s0_0.length:Int)
 rotate_left
 ·rw [if_neg c2] at H
  have c2b0:=decide_eq_false c2
  clear c2
  simp only [Option.some.injEq,Prod.mk.injEq] at H
  obtain ⟨rfl,rfl,rfl⟩:=H
  obtain ⟨ASz5_0,cSz5_0,HGz5,hgz5,HSz5_0⟩:=HI0.1
  have hcz5_0:=cellS106_0 HGz5
  have hcz5_1:=cellS106_1 HGz5
  have hcz5_2:=cellS106_2 HGz5
  have hfz5_1:=blk_frozen HGz5 1
  have hfz5_2:=blk_frozen HGz5 2
  clear HGz5 hgz5
  go_enter Try.func116,Try.ntmps116
  go_wp2
  repeat (go_quiet (fail);try go_wp2)
  go_ret
  exact ⟨zE,zB6,zB7,zB8⟩
 rw [if_pos c2] at H
 have c2b0:=decide_eq_true c2
 clear c2
 replace H:=zIt H
 obtain ⟨c3b0,H⟩:=H
 simp only [Option.some.injEq,Prod.mk.injEq] at H
 obtain ⟨rfl,rfl,rfl⟩:=H
 obtain ⟨ASz4_0,cSz4_0,HGz4,hgz4,HSz4_0⟩:=HI0.1
 have hcz4_0:=cellS106_0 HGz4
 have hcz4_1:=cellS106_1 HGz4
 have hcz4_2:=cellS106_2 HGz4
 have hfz4_1:=blk_frozen HGz4 1
 have hfz4_2:=blk_frozen HGz4 2
 clear HGz4 hgz4
 obtain ⟨p104,q104,ad104,e104,hx104_0⟩:=zRd (Kd.at_int HSz4_0 s0_1)
 cases e104
 have hn104_0:ad104.block≠g:=Nat.ne_of_lt (Nat.lt_of_lt_of_le (by have:=World.block_lt_of_cell? _ _ hx104_0;first|rwa [add_block] at this|exact this) (IsS106.ge HI0.1))
 replace hx104_0:=pw_cell_below HB.1 hx104_0
 replace hx104_0:=(cell_far (p:=⟨g,2,none⟩) (by first|(rw [add_block];exact hn104_0)|(show (Addr.add _ _).block≠_;rw [add_block];exact hn104_0)|exact hn104_0) (.int .i64 (wrap64 ((wrap64 (s0_2*6364136223846793005))+1442695040888963407)))).trans hx104_0
 (try have hy104_0:=fun (n_:Nat)=>(show (((w.drewN n_).setCell ⟨g,2,none⟩ (.int .i64 (wrap64 ((wrap64 (s0_2*6364136223846793005))+1442695040888963407))))).cell? _=some _ from hx104_0))
 clear hn104_0
 go_enter Try.func116,Try.ntmps116
 go_wp2
 repeat (go_quiet (fail);try go_wp2)
 go_ret
 exact ⟨zE,zB6,zB7,zB8⟩

/-! ### spec_l1Below: function 90 -/
def spec_l1Below.f (s0_0:List Int) (s0_1:Int) (s0_2:Int) (a1:Int):Option (Int×Int×Int):=if a1≤0 then (some (0,s0_1,s0_2)) else (if a1≤256 then ((spec_l1Byte.f s0_0 s0_1 s0_2).bind fun bt105=>(if a1=0 then (none) else (some (Int.tmod bt105.1 a1,bt105.2.1,bt105.2.2)))) else ((spec_l1Byte.f s0_0 s0_1 s0_2).bind fun bt108=>((spec_l1Byte.f s0_0 bt108.2.1 bt108.2.2).bind fun bt111=>((spec_l1Byte.f s0_0 bt111.2.1 bt111.2.2).bind fun bt114=>((spec_l1Byte.f s0_0 bt114.2.1 bt114.2.2).bind fun bt117=>(if a1=0 then (none) else (some (Int.tmod (wrap64 ((wrap64 ((wrap64 ((wrap64 (bt108.1*16777216))+(wrap64 (bt111.1*65536))))+(wrap64 (bt114.1*256))))+bt117.1)) a1,bt117.2.1,bt117.2.2))))))))
theorem spec_l1Below.calls (g:Nat) (s0_0:List Int) (s0_1:Int) (s0_2:Int) (a1:Int) (r1:Int) (r2:Int) (r3:Int) (w0 w:World) (hI:IsS106 w0 w g s0_0 s0_1 s0_2) (hB:Below w0.heap.size w0 w) (h:spec_l1Below.f s0_0 s0_1 s0_2 a1=some (r1,r2,r3)):
  Calls Try.prog 90 #[.pointer (some ⟨g,0,none⟩),.int .i64 a1] w fun e w'=>e= .returned (.int .i64 r1)∧IsS106 w0 w' g s0_0 r2 r3∧Below w0.heap.size w0 w'∧KeepBut w w' g none:=by
 have HI0:=zM hI
 have HK:=zM (KeepBut.refl w g none)
 have HL:=zM hB.size
 clear hI
 have HW0:=zM hB.size
 have HB:=zM hB
 clear hB
 unfold spec_l1Below.f at h
 have H:=h
 clear h
 by_cases c3:a1≤0
 ·rw [if_pos c3] at H
  have c3b0:=decide_eq_true c3
  clear c3
  simp only [Option.some.injEq,Prod.mk.injEq] at H
  obtain ⟨rfl,rfl,rfl⟩:=H
  go_enter Try.func90,Try.ntmps90
  go_wp2
  go_ret
  exact ⟨zE,zB6,zB7,zB8⟩
 rw [if_neg c3] at H
 have c3b0:=decide_eq_false c3
 clear c3
 by_cases c4:a1≤256
 ·rw [if_pos c4] at H
  have c4b0:=decide_eq_true c4
  clear c4
  replace H:=zO H
  obtain ⟨⟨t105,t106,t107⟩,A5,H⟩:=H
  try dsimp only at H
  by_cases c6:a1=0
  ·rw [if_pos c6] at H
   exact absurd H (by simp)
  rw [if_neg c6] at H
  have c6b0:(a1 == 0)=false:=beq_eq_false_iff_ne.mpr c6
  have c6b1:(a1 != 0)=true:=bne_iff_ne.mpr c6
  simp only [Option.some.injEq,Prod.mk.injEq] at H
  obtain ⟨rfl,rfl,rfl⟩:=H
  go_enter Try.func90,Try.ntmps90
  go_wp2_with (first|((with_reducible refine zG Try.func116 14 #[.pointer (some ⟨g,0,none⟩)] ?_);(with_reducible refine (spec_l1Byte.calls g s0_0 s0_1 s0_2 t105 t106 t107 w0 _ ?side1 ?side2 A5.1).mono ?_);(case side1=>exact zB6);(case side2=>exact zB7);rintro e w7 ⟨rfl,hi,hb,hk⟩;refine ⟨_,rfl,?_⟩;replace HK:=zM (KeepBut.trans zB8 hk (.inl rfl));replace HB:=zM hb;replace HI0:=zM hi;clear hb hk hi))
  go_ret
  exact ⟨zE,zB6,zB7,zB8⟩
 rw [if_neg c4] at H
 have c4b0:=decide_eq_false c4
 clear c4
 replace H:=zO H
 obtain ⟨⟨t108,t109,t110⟩,A8,H⟩:=H
 try dsimp only at H
 replace H:=zO H
 obtain ⟨⟨t111,t112,t113⟩,A9,H⟩:=H
 try dsimp only at H
 replace H:=zO H
 obtain ⟨⟨t114,t115,t116⟩,A10,H⟩:=H
 try dsimp only at H
 replace H:=zO H
 obtain ⟨⟨t117,t118,t119⟩,A11,H⟩:=H
 try dsimp only at H
 by_cases c12:a1=0
 ·rw [if_pos c12] at H
  exact absurd H (by simp)
 rw [if_neg c12] at H
 have c12b0:(a1 == 0)=false:=beq_eq_false_iff_ne.mpr c12
 have c12b1:(a1 != 0)=true:=bne_iff_ne.mpr c12
 simp only [Option.some.injEq,Prod.mk.injEq] at H
 obtain ⟨rfl,rfl,rfl⟩:=H
 go_enter Try.func90,Try.ntmps90
 go_wp2_with (first|((with_reducible refine zG Try.func116 18 #[.pointer (some ⟨g,0,none⟩)] ?_);(with_reducible refine (spec_l1Byte.calls g s0_0 s0_1 s0_2 t108 t109 t110 w0 _ ?side1 ?side2 A8.1).mono ?_);(case side1=>exact zB6);(case side2=>exact zB7);rintro e w13 ⟨rfl,hi,hb,hk⟩;refine ⟨_,rfl,?_⟩;replace HK:=zM (KeepBut.trans zB8 hk (.inl rfl));replace HB:=zM hb;replace HI0:=zM hi;clear hb hk hi)|((with_reducible refine zG Try.func116 20 #[.pointer (some ⟨g,0,none⟩)] ?_);(with_reducible refine (spec_l1Byte.calls g s0_0 t109 t110 t111 t112 t113 w0 _ ?side1 ?side2 A9.1).mono ?_);(case side1=>exact zB6);(case side2=>exact zB7);rintro e w14 ⟨rfl,hi,hb,hk⟩;refine ⟨_,rfl,?_⟩;replace HK:=zM (KeepBut.trans zB8 hk (.inl rfl));replace HB:=zM hb;replace HI0:=zM hi;clear hb hk hi)|((with_reducible refine zG Try.func116 22 #[.pointer (some ⟨g,0,none⟩)] ?_);(with_reducible refine (spec_l1Byte.calls g s0_0 t112 t113 t114 t115 t116 w0 _ ?side1 ?side2 A10.1).mono ?_);(case side1=>exact zB6);(case side2=>exact zB7);rintro e w15 ⟨rfl,hi,hb,hk⟩;refine ⟨_,rfl,?_⟩;replace HK:=zM (KeepBut.trans zB8 hk (.inl rfl));replace HB:=zM hb;replace HI0:=zM hi;clear hb hk hi)|((with_reducible refine zG Try.func116 24 #[.pointer (some ⟨g,0,none⟩)] ?_);(with_reducible refine (spec_l1Byte.calls g s0_0 t115 t116 t117 t118 t119 w0 _ ?side1 ?side2 A11.1).mono ?_);(case side1=>exact zB6);(case side2=>exact zB7);rintro e w16 ⟨rfl,hi,hb,hk⟩;refine ⟨_,rfl,?_⟩;replace HK:=zM (KeepBut.trans zB8 hk (.inl rfl));replace HB:=zM hb;replace HI0:=zM hi;clear hb hk hi))
 go_ret
 exact ⟨zE,zB6,zB7,zB8⟩

/-! ### spec_l1Once: function 56 -/
def spec_l1Once.f (s0_0:List Int) (s0_1:Int) (s0_2:Int) (a1:Int):Option (Bool×Int×Int):=(spec_l1Below.f s0_0 s0_1 s0_2 a1).bind fun bt120=>(some ((bt120.1 == 0),bt120.2.1,bt120.2.2))
theorem spec_l1Once.calls (g:Nat) (s0_0:List Int) (s0_1:Int) (s0_2:Int) (a1:Int) (r1:Bool) (r2:Int) (r3:Int) (w0 w:World) (hI:IsS106 w0 w g s0_0 s0_1 s0_2) (hB:Below w0.heap.size w0 w) (h:spec_l1Once.f s0_0 s0_1 s0_2 a1=some (r1,r2,r3)):
  Calls Try.prog 56 #[.pointer (some ⟨g,0,none⟩),.int .i64 a1] w fun e w'=>e= .returned (.bool r1)∧IsS106 w0 w' g s0_0 r2 r3∧Below w0.heap.size w0 w'∧KeepBut w w' g none:=by
 have HI0:=zM hI
 have HK:=zM (KeepBut.refl w g none)
 have HL:=zM hB.size
 clear hI
 have HW0:=zM hB.size
 have HB:=zM hB
 clear hB
 unfold spec_l1Once.f at h
 have H:=h
 clear h
 replace H:=zO H
 obtain ⟨⟨t120,t121,t122⟩,A3,H⟩:=H
 try dsimp only at H
 simp only [Option.some.injEq,Prod.mk.injEq] at H
 obtain ⟨rfl,rfl,rfl⟩:=H
 go_enter Try.func56,Try.ntmps56
 go_wp2_with (first|((with_reducible refine zG Try.func90 7 #[.pointer (some ⟨g,0,none⟩),.int .i64 a1] ?_);(with_reducible refine (spec_l1Below.calls g s0_0 s0_1 s0_2 a1 t120 t121 t122 w0 _ ?side1 ?side2 A3.1).mono ?_);(case side1=>exact zB6);(case side2=>exact zB7);rintro e w4 ⟨rfl,hi,hb,hk⟩;refine ⟨_,rfl,?_⟩;replace HK:=zM (KeepBut.trans zB8 hk (.inl rfl));replace HB:=zM hb;replace HI0:=zM hi;clear hb hk hi))
 go_ret
 exact ⟨zE,zB6,zB7,zB8⟩

/-! ### spec_l1PickInt: function 91 -/
def spec_l1PickInt.f (s0_0:List Int) (s0_1:Int) (s0_2:Int) (l1:List Int):Option (Int×Int×Int):=(spec_l1Below.f s0_0 s0_1 s0_2 (l1.length:Int)).bind fun bt123=>(if 0≤bt123.1 then (if bt123.1<(l1.length:Int) then (some (rd l1 bt123.1,bt123.2.1,bt123.2.2)) else (none)) else (none))
theorem spec_l1PickInt.calls (g:Nat) (s0_0:List Int) (s0_1:Int) (s0_2:Int) (A1:Option Addr) (c1:Nat) (l1:List Int) (r1:Int) (r2:Int) (r3:Int) (w0 w:World) (hI:IsS106 w0 w g s0_0 s0_1 s0_2) (hB:Below w0.heap.size w0 w) (hr1:Kd.C (Kd.int .i64) w A1 l1.length l1) (hc1:l1.length≤c1) (hf1: ∀ad,A1=some ad→0<l1.length→ad.block≠g) (h:spec_l1PickInt.f s0_0 s0_1 s0_2 l1=some (r1,r2,r3)):
  Calls Try.prog 91 #[.pointer (some ⟨g,0,none⟩),.slice A1 l1.length c1] w fun e w'=>e= .returned (.int .i64 r1)∧IsS106 w0 w' g s0_0 r2 r3∧Below w0.heap.size w0 w'∧KeepBut w w' g none:=by
 have HR1:=zM hr1
 have HC1:=zM hc1
 clear hr1 hc1
 have HI0:=zM hI
 have HK:=zM (KeepBut.refl w g none)
 have HL:=zM hB.size
 clear hI
 have HW0:=zM hB.size
 have HB:=zM hB
 clear hB
 unfold spec_l1PickInt.f at h
 have H:=h
 clear h
 replace H:=zO H
 obtain ⟨⟨t123,t124,t125⟩,A3,H⟩:=H
 try dsimp only at H
 replace H:=zIt H
 obtain ⟨c4b0,H⟩:=H
 replace H:=zIt H
 obtain ⟨c5b0,H⟩:=H
 simp only [Option.some.injEq,Prod.mk.injEq] at H
 obtain ⟨rfl,rfl,rfl⟩:=H
 go_enter Try.func91,Try.ntmps91
 go_wp2_with (first|((with_reducible refine zG Try.func90 9 #[.pointer (some ⟨g,0,none⟩),.int .i64 (l1.length:Int)] ?_);(with_reducible refine (spec_l1Below.calls g s0_0 s0_1 s0_2 (l1.length:Int) t123 t124 t125 w0 _ ?side1 ?side2 A3.1).mono ?_);(case side1=>exact zB6);(case side2=>exact zB7);rintro e w6 ⟨rfl,hi,hb,hk⟩;refine ⟨_,rfl,?_⟩;replace HK:=zM (KeepBut.trans zB8 hk (.inl rfl));replace HB:=zM hb;replace HI0:=zM hi;clear hb hk hi;have p126:0≤(t123:Int):=zA;have q126:t123<(l1.length:Int):=zA;obtain ⟨ad126,e126,hx126_0⟩:=Kd.at_int HR1.1 t123 p126 q126;cases e126;replace hx126_0:=keep_cell HK.1 hx126_0 (by first|(rw [add_block];exact hf1 _ rfl (by omega))|exact hf1 _ rfl (by omega)|exact hf1 ad126 rfl (by omega));replace p126:=eq_true p126;replace q126:=eq_true q126))
 go_ret
 exact ⟨zE,zB6,zB7,zB8⟩

end Go.Proofs.Ytpcgecacaemalaa.PFnStops
