-- made by wip/tools/myprint.py out of the seat's translation
import Derived.Test.YtaakcbgpmabaaaaPFnSeenx0
import Derived.Test.YtaakcbgpmabaaaaPFnSeenx2
namespace Go.Proofs.Ytaakcbgpmabaaaa.PFnSeen
open Go.RowKit Go.Proofs.YtaakcbgpmabaaaaW.PrintWords Go.Proofs.YtaakcbgpmabaaaaW.PrintLast Go.Proofs.YtaakcbgpmabaaaaW.PrintMore
attribute [local go_sem] max2_int min2_int max_two min_two max_three min_three max_four min_four -- for this text's walks alone
set_option linter.unusedVariables false
set_option linter.unusedSimpArgs false
set_option maxHeartbeats 8000000
set_option maxRecDepth 100000
abbrev zq18_0:Array Bool:=#[false,false,false,false,false,false,false,false,false,false]
abbrev zq18_11:Array Bool:=#[false,false,false,false,false,false,false,false,false,false,false,false,false,false,false,false,false,false,false]

/-! ### spec_l21Go: function 49 -/
mutual
def spec_l21Go.l0:Nat→List Int→List (List (S37))→List Int→Int→Int→Option (Bool×List Int×List Int)
 |0,_,_,_,_,_=>none
 |k+1,x0,x1,x2,x3,x9=>if x9<(x1.length:Int) then (if 0≤x9 then (if x9<(x2.length:Int) then (if (rd x2 x9)≥((rd_L7 x1 x9).length:Int) then (spec_l21Go.l0 k x0 x1 x2 x3 (wrap64 (x9+1))) else (if 0≤(rd x2 x9) then (if (rd x2 x9)<((rd_L7 x1 x9).length:Int) then ((spec_l1In.f ((rd_T37 (rd_L7 x1 x9) (rd x2 x9)).f0) 0 23).bind fun t858=>(if t858=true then (if ((rd_T37 (rd_L7 x1 x9) (rd x2 x9)).f1)≥0 then (if 0≤((rd_T37 (rd_L7 x1 x9) (rd x2 x9)).f0) then (if ((rd_T37 (rd_L7 x1 x9) (rd x2 x9)).f0)<(x0.length:Int) then (spec_l21Go.j1 k x0 x1 x2 x3 x9 (((rd_T37 (rd_L7 x1 x9) (rd x2 x9)).f1) != (rd x0 ((rd_T37 (rd_L7 x1 x9) (rd x2 x9)).f0))) ((rd_T37 (rd_L7 x1 x9) (rd x2 x9)).f0) ((rd_T37 (rd_L7 x1 x9) (rd x2 x9)).f1) ((rd_T37 (rd_L7 x1 x9) (rd x2 x9)).f2)) else (none)) else (none)) else (spec_l21Go.j1 k x0 x1 x2 x3 x9 false ((rd_T37 (rd_L7 x1 x9) (rd x2 x9)).f0) ((rd_T37 (rd_L7 x1 x9) (rd x2 x9)).f1) ((rd_T37 (rd_L7 x1 x9) (rd x2 x9)).f2))) else (spec_l21Go.j1 k x0 x1 x2 x3 x9 true ((rd_T37 (rd_L7 x1 x9) (rd x2 x9)).f0) ((rd_T37 (rd_L7 x1 x9) (rd x2 x9)).f1) ((rd_T37 (rd_L7 x1 x9) (rd x2 x9)).f2)))) else (none)) else (none))) else (none)) else (none)) else (some (false,x0,x2))
def spec_l21Go.j1:Nat→List Int→List (List (S37))→List Int→Int→Int→Bool→Int→Int→Int→Option (Bool×List Int×List Int)
 |0,_,_,_,_,_,_,_,_,_=>none
 |k+1,x0,x1,x2,x3,x9,x58,x858000,x858001,x858002=>if x58=true then (spec_l21Go.l0 k x0 x1 x2 x3 (wrap64 (x9+1))) else (if 0≤x858000 then (if x858000<(x0.length:Int) then (if x858002≥0 then (if 0≤x9 then (if x9<(x2.length:Int) then ((spec_l21Go.f k (x0.set (x858000:Int).toNat x858002) x1 (x2.set (x9:Int).toNat (wrap64 ((rd x2 x9)+1))) (wrap64 (x3-1))).bind fun bt864=>(if bt864.1=true then (some (true,bt864.2.1,bt864.2.2)) else (spec_l21Go.l0 k (bt864.2.1.set (x858000:Int).toNat (rd x0 x858000)) x1 (bt864.2.2.set (x9:Int).toNat (wrap64 ((rd bt864.2.2 x9)-1))) x3 (wrap64 (x9+1))))) else (none)) else (none)) else (if 0≤x9 then (if x9<(x2.length:Int) then ((spec_l21Go.f k x0 x1 (x2.set (x9:Int).toNat (wrap64 ((rd x2 x9)+1))) (wrap64 (x3-1))).bind fun bt872=>(if bt872.1=true then (some (true,bt872.2.1,bt872.2.2)) else (spec_l21Go.l0 k (bt872.2.1.set (x858000:Int).toNat (rd x0 x858000)) x1 (bt872.2.2.set (x9:Int).toNat (wrap64 ((rd bt872.2.2 x9)-1))) x3 (wrap64 (x9+1))))) else (none)) else (none))) else (none)) else (none))
def spec_l21Go.f:Nat→List Int→List (List (S37))→List Int→Int→Option (Bool×List Int×List Int)
 |0,_,_,_,_=>none
 |k+1,l0,l1,l2,a3=>if a3=0 then (some (true,l0,l2)) else (spec_l21Go.l0 k l0 l1 l2 a3 0)
end
theorem spec_l21Go.mono_l: ∀k,(∀y0 y1 y2 y3,LeO (spec_l21Go.f k y0 y1 y2 y3) (spec_l21Go.f (k+1) y0 y1 y2 y3))∧(∀y0 y1 y2 y3 y4,LeO (spec_l21Go.l0 k y0 y1 y2 y3 y4) (spec_l21Go.l0 (k+1) y0 y1 y2 y3 y4))∧(∀y0 y1 y2 y3 y4 y5 y6 y7 y8,LeO (spec_l21Go.j1 k y0 y1 y2 y3 y4 y5 y6 y7 y8) (spec_l21Go.j1 (k+1) y0 y1 y2 y3 y4 y5 y6 y7 y8))
 |0=>⟨fun _ _ _ _ r h=>by simp [spec_l21Go.f] at h,fun _ _ _ _ _ r h=>by simp [spec_l21Go.l0] at h,fun _ _ _ _ _ _ _ _ _ r h=>by simp [spec_l21Go.j1] at h⟩
 |k+1=>by
  obtain ⟨ih0,ih1,ih2⟩:=spec_l21Go.mono_l k
  refine ⟨?_,?_,?_⟩
  ·intros
   unfold spec_l21Go.f
   exact zL
  ·intros
   unfold spec_l21Go.l0
   exact zL
  ·intros
   unfold spec_l21Go.j1
   exact zL
theorem spec_l21Go.mono: ∀a0 a1 a2 a3 k,LeO (spec_l21Go.f k a0 a1 a2 a3) (spec_l21Go.f (k+1) a0 a1 a2 a3):=by
 intro a0 a1 a2 a3 k
 obtain ⟨ih0,ih1,ih2⟩:=spec_l21Go.mono_l k
 exact ih0 a0 a1 a2 a3
def spec_l21Go.T6:Bool×List (List Nat×List Nat):=(true,[([],[]),([],[]),([0,1],[0,1]),([2],[2]),([],[]),([],[]),([4,5],[4,5]),([6],[6]),([7],[7]),([3,8],[3,8])])
def spec_l21Go.B6:List Nat:=[0,0,3,7,0,0,48,112,240,511]
theorem spec_l21Go.tab6:rtab .any (opsOf Try.f49 6)=spec_l21Go.T6:=by kernel_rfl
theorem spec_l21Go.bits6:waitsOk spec_l21Go.T6.2 spec_l21Go.B6=true:=by kernel_rfl
def spec_l21Go.T7:Bool×List (List Nat×List Nat):=(true,[([],[]),([],[]),([0,1],[0,1]),([2],[2]),([],[]),([],[]),([4,5],[4,5]),([6],[6]),([3,7],[3,7]),([8],[8]),([],[]),([10,9,0,1,2,3,4,5,6,7,8,9,10],[9,10])])
def spec_l21Go.B7:List Nat:=[0,0,3,7,0,0,48,112,255,511,0,2047]
theorem spec_l21Go.tab7:rtab .any (opsOf Try.f49 7)=spec_l21Go.T7:=by kernel_rfl
theorem spec_l21Go.bits7:waitsOk spec_l21Go.T7.2 spec_l21Go.B7=true:=by kernel_rfl
def spec_l21Go.T8:Bool×List (List Nat×List Nat):=(true,[([],[]),([0],[0]),([1],[1]),([2],[2]),([3,2],[3]),([4],[4]),([5,4],[4,5]),([6,4],[4,6]),([7,4,4],[4,7]),([8],[8]),([9,8],[8,9]),([8],[8]),([8],[8]),([12,8],[8,12]),([11,13,8],[8,11,13]),([14,8],[8,14]),([10,15,8],[8,10,15]),([8,16,4],[4,8,16]),([4,17],[4,17])])
def spec_l21Go.B8:List Nat:=[0,1,3,7,15,31,63,127,255,511,1023,511,511,4607,14847,31231,65535,131071,262143]
theorem spec_l21Go.tab8:rtab .any (opsOf Try.f49 8)=spec_l21Go.T8:=by kernel_rfl
theorem spec_l21Go.bits8:waitsOk spec_l21Go.T8.2 spec_l21Go.B8=true:=by kernel_rfl
theorem foot_in {α:Type} {d:Kd α} {e:Nat} {W W1:World} {S:Nat→Prop} {ad b:Addr} {n m c:Nat} {xs:List (List α)} (h: ∀W',Kept W W' S→(Kd.slice e d).C W' (some ad) n xs) (hk:Kept W W1 S) (i:Int) (h0:0≤i) (h1:i<n) (hc:W1.cell? (ad.add i.toNat)=some (.slice (some b) m c)) (hm:0<m) (hs:0<d.sz):b.block<W.heap.size:=by
 have hS:=Kd.foot_neS h (by omega) (show 0<(Kd.slice e d).sz from Nat.one_pos)
 obtain ⟨ad',cs,e',_,⟨A,c',rfl,hl,hC⟩,hcell⟩:=Kd.C_get (h W (Kept.refl W S)) [] i h0 h1
 injection e' with e'
 subst e'
 have h2:W.cell? (ad.add (i.toNat*1+0))=some _:=hcell 0 _ rfl
 rw [Nat.mul_one,Nat.add_zero] at h2
 have h3:=cell_kept h2 hk (by rw [add_block];exact hS)
 rw [h3] at hc
 injection hc with hc
 injection hc with ha hb hc
 subst ha
 rw [←hb] at hm
 exact Kd.C_lt hC hm hs
theorem spec_l21Go.calls (k:Nat): ∀(P0_:Nat→Prop) (u9000_:Value) (l0:List Int) (A1:Option Addr) (c1:Nat) (l1:List (List (S37))) (P2_:Nat→Prop) (u9001_:Value) (l2:List Int) (a3:Int) (r1:Bool) (r2:List Int) (r3:List Int) (w0 w:World) (hB:Below w0.heap.size w0 w) (ho0:Kd.R (Kd.int .i64) 3 w w0.heap.size P0_ u9000_ l0) (hp0_2: ∀k_,P0_ k_→¬P2_ k_) (hr1: ∀W_,Kept w W_ (fun k_=>P0_ k_∨P2_ k_)→Kd.C (Kd.slice 37 k37) W_ A1 l1.length l1) (hc1:l1.length≤c1) (ho2:Kd.R (Kd.int .i64) 3 w w0.heap.size P2_ u9001_ l2) (hp2_0: ∀k_,P2_ k_→¬P0_ k_) (h:spec_l21Go.f k l0 l1 l2 a3=some (r1,r2,r3)),
  Calls Try.prog 49 #[u9000_,.slice A1 l1.length c1,u9001_,.int .i64 a3] w fun e w'=>e= .returned (.bool r1)∧Kd.R (Kd.int .i64) 3 w' w0.heap.size (fun k_=>((P0_ k_∨P2_ k_)∨w.heap.size≤k_)) u9000_ r2∧Kd.R (Kd.int .i64) 3 w' w0.heap.size (fun k_=>((P0_ k_∨P2_ k_)∨w.heap.size≤k_)) u9001_ r3∧Below w0.heap.size w0 w'∧Kept w w' (fun k_=>P0_ k_∨P2_ k_):=by
 induction k using Nat.strongRecOn with
 |_ k ih=>
 intro P0_ u9000_ l0 A1 c1 l1 P2_ u9001_ l2 a3 r1 r2 r3 w0 w hB ho0 hp0_2 hr1 hc1 ho2 hp2_0 h
 cases k with
 |zero=>exact absurd h (by simp [spec_l21Go.f])
 |succ k=>
 simp only [spec_l21Go.f] at h
 have hu37:=Try.underlying37
 have HO0:=zM (show Kd.R (Kd.int .i64) 3 w w0.heap.size (fun k_=>((P0_ k_∨P2_ k_)∨w.heap.size≤k_)∧some k_≠(u9001_:Value).ownBlock) u9000_ l0 from Kd.R_mono ho0 (fun k_ hk=>⟨(.inl (.inl hk)),fun e_=>hp0_2 k_ hk (ho2.1 k_ e_.symm)⟩))
 have HR1:=zM hr1
 have HC1:=zM hc1
 clear hr1 hc1
 have HO2:=zM (show Kd.R (Kd.int .i64) 3 w w0.heap.size (fun k_=>((P0_ k_∨P2_ k_)∨w.heap.size≤k_)∧some k_≠(u9000_:Value).ownBlock) u9001_ l2 from Kd.R_mono ho2 (fun k_ hk=>⟨(.inl (.inr hk)),fun e_=>hp2_0 k_ hk (ho0.1 k_ e_.symm)⟩))
 have HK:=zM (Kept.refl w (fun k_=>P0_ k_∨P2_ k_))
 have HW0:=zM hB.size
 have HB:=zM hB
 clear hB
 have H:=h
 clear h
 by_cases c5:a3=0
 ·rw [if_pos c5] at H
  have c5b0:(a3 == 0)=true:=beq_iff_eq.mpr c5
  have c5b1:(a3 != 0)=false:=bne_eq_false_iff_eq.mpr c5
  clear c5
  simp only [Option.some.injEq,Prod.mk.injEq] at H
  obtain ⟨rfl,rfl,rfl⟩:=H
  go_enter Try.func49,Try.ntmps49
  go_wp2
  go_ret
  exact ⟨zE,by refine zrR ?_;exact Kd.R_mono HO0.1 (fun _ hk=>hk.1),by refine zrR ?_;exact Kd.R_mono HO2.1 (fun _ hk=>hk.1),zB3,zB56⟩
 rw [if_neg c5] at H
 have c5b0:(a3 == 0)=false:=beq_eq_false_iff_ne.mpr c5
 have c5b1:(a3 != 0)=true:=bne_iff_ne.mpr c5
 have H':=zM H
 clear H
 go_enter Try.func49,Try.ntmps49
 go_wp2
 go_loopg [9] k (fun kq v9 w'=>∃(x0_1:List Int) (x2_1:List Int) (x9_1:Int),v9= .int .i64 x9_1∧Aside0 (spec_l21Go.l0 kq x0_1 l1 x2_1 a3 x9_1=some (r1,r2,r3))∧Aside0 (kq≤k)∧Aside0 (Kd.R (Kd.int .i64) 3 w' w0.heap.size (fun k_=>((P0_ k_∨P2_ k_)∨w.heap.size≤k_)∧some k_≠(u9001_:Value).ownBlock) u9000_ x0_1)∧Aside0 (Kd.R (Kd.int .i64) 3 w' w0.heap.size (fun k_=>((P0_ k_∨P2_ k_)∨w.heap.size≤k_)∧some k_≠(u9000_:Value).ownBlock) u9001_ x2_1)∧Aside0 (Kept w w' (fun k_=>P0_ k_∨P2_ k_))∧Aside0 (Below w0.heap.size w0 w'))
 case atStart=>exact ⟨(l0),(l2),(0),zJJ,H',⟨Nat.le_refl _⟩,⟨zR HO0.1⟩,⟨zR HO2.1⟩,⟨zB56⟩,⟨zB3⟩⟩
 case round=>
  clear H'
  obtain ⟨x0_1,x2_1,x9_1,rfl,HA,HK1,HO_0,HO_2,HK,HB⟩:=hrel
  cases gk with
  |zero=>exact absurd HA.1 (by simp [spec_l21Go.l0])
  |succ k1=>
   have H:=HA.1
   clear HA
   simp only [spec_l21Go.l0] at H
   by_cases c6:x9_1<(l1.length:Int)
   rotate_left
   ·rw [if_neg c6] at H
    have c6b0:=decide_eq_false c6
    clear c6
    simp only [Option.some.injEq,Prod.mk.injEq] at H
    obtain ⟨rfl,rfl,rfl⟩:=H
    go_wp2
    go_ret
    exact ⟨zE,by refine zrR ?_;exact Kd.R_mono HO_0.1 (fun _ hk=>hk.1),by refine zrR ?_;exact Kd.R_mono HO_2.1 (fun _ hk=>hk.1),zB3,zB56⟩
   rw [if_pos c6] at H
   have c6b0:=decide_eq_true c6
   clear c6
   replace H:=zIt H
   obtain ⟨c7b0,H⟩:=H
   replace H:=zIt H
   obtain ⟨c8b0,H⟩:=H
   by_cases c9:(rd x2_1 x9_1)≥((rd_L7 l1 x9_1).length:Int)
   ·rw [if_pos c9] at H
    have c9b0:=decide_eq_true c9
    clear c9
    have H':=zM H
    clear H
    try go_wp2
    replace HO_0:=zM (Kd.R_drew HO_0.1)
    replace HO_2:=zM (Kd.R_drew HO_2.1)
    replace HK:=zM (Kept.drew HK.1)
    replace HB:=zM (below_drew1 HB.1)
    obtain ⟨Ao11,co11,eo11⟩:=Kd.R_slice HO_2.1
    (first|subst eo11|(injection eo11 with f1_ f2_ f3_;have f4_:=f1_.symm;have f5_:=f3_.symm;clear f1_ f2_ f3_;subst f4_;subst f5_))
    obtain ⟨p852,q852,ad852,e852,hx852_0⟩:=zRd (Kd.at_int (Kd.R_reads' HO_2.1).2.2 x9_1)
    cases e852
    have p853:0≤(x9_1:Int):=zA
    have q853:x9_1<(l1.length:Int):=zA
    obtain ⟨ad853,A853_0,c853_0,e853,hx853_0,hl853_0,hi853_0⟩:=at_L7 (Kd.C_kept_now HR1.1 HK.1) x9_1 p853 q853
    have hw853_0:=hx853_0
    cases e853
    have hlt853_0:=(Kd.foot_ltS HR1.1 (by omega) (by decide))
    have HR853_0:=zM hi853_0
    have HC853_0:=zM hl853_0
    clear hi853_0 hl853_0
    replace p853:=eq_true p853
    replace q853:=eq_true q853
    refine start_ (n:=10) (S:=fun w'=>w'.cell? (ad852.add (x9_1).toNat)=some (.int .i64 (rd x2_1 x9_1))∧w'.cell? (ad853.add (x9_1).toNat)=some (.slice A853_0 (rd_L7 l1 x9_1).length c853_0)) (ds:=[]) zq18_0 (by kernel_rfl) rfl rfl ⟨hx852_0,hx853_0⟩ (fun hHeld=>?_);refine with_tabW spec_l21Go.tab6 spec_l21Go.bits6 (fun HT_ HW_=>?_)
    generalize wr.drew=w10 at HO_0 HO_2 HK HB HR853_0 hx852_0 hx853_0 hHeld ⊢
    refine zPu 0 ?_
    refine zPu 1 ?_
    refine zPu 2 ?_
    refine zPu 4 ?_
    refine zPu 5 ?_
    refine zPu 6 ?_
    refine zTk2 3 hHeld ?_
    refine zTk2 7 hHeld ?_
    refine zPu 8 ?_
    refine zPu 9 ?_
    refine done_ (done_of HT_.1 (by kernel_rfl)) ?_
    try go_wp2
    go_roundg k1
    case measure=>have:=HK1.1;omega
    case rel=>exact ⟨(x0_1),(x2_1),(wrap64 (x9_1+1)),zJJ,H',⟨by have:=HK1.1;omega⟩,⟨zR HO_0.1⟩,⟨zR HO_2.1⟩,⟨zB56⟩,⟨zB3⟩⟩
   rw [if_neg c9] at H
   have c9b0:=decide_eq_false c9
   clear c9
   replace H:=zIt H
   obtain ⟨c12b0,H⟩:=H
   replace H:=zIt H
   obtain ⟨c13b0,H⟩:=H
   have HC14:=zM H
   clear H
   try go_wp2
   replace HO_0:=zM (Kd.R_drew HO_0.1)
   replace HO_2:=zM (Kd.R_drew HO_2.1)
   replace HK:=zM (Kept.drew HK.1)
   replace HB:=zM (below_drew1 HB.1)
   obtain ⟨Ao16,co16,eo16⟩:=Kd.R_slice HO_2.1
   (first|subst eo16|(injection eo16 with f1_ f2_ f3_;have f4_:=f1_.symm;have f5_:=f3_.symm;clear f1_ f2_ f3_;subst f4_;subst f5_))
   obtain ⟨p852,q852,ad852,e852,hx852_0⟩:=zRd (Kd.at_int (Kd.R_reads' HO_2.1).2.2 x9_1)
   cases e852
   have p853:0≤(x9_1:Int):=zA
   have q853:x9_1<(l1.length:Int):=zA
   obtain ⟨ad853,A853_0,c853_0,e853,hx853_0,hl853_0,hi853_0⟩:=at_L7 (Kd.C_kept_now HR1.1 HK.1) x9_1 p853 q853
   have hw853_0:=hx853_0
   cases e853
   have hlt853_0:=(Kd.foot_ltS HR1.1 (by omega) (by decide))
   have HR853_0:=zM hi853_0
   have HC853_0:=zM hl853_0
   clear hi853_0 hl853_0
   replace p853:=eq_true p853
   replace q853:=eq_true q853
   refine start_ (n:=10) (S:=fun w'=>w'.cell? (ad852.add (x9_1).toNat)=some (.int .i64 (rd x2_1 x9_1))∧w'.cell? (ad853.add (x9_1).toNat)=some (.slice A853_0 (rd_L7 l1 x9_1).length c853_0)) (ds:=[]) zq18_0 (by kernel_rfl) rfl rfl ⟨hx852_0,hx853_0⟩ (fun hHeld=>?_);refine with_tabW spec_l21Go.tab6 spec_l21Go.bits6 (fun HT_ HW_=>?_)
   generalize wr.drew=w15 at HO_0 HO_2 HK HB HR853_0 hx852_0 hx853_0 hHeld ⊢
   refine zPu 0 ?_
   refine zPu 1 ?_
   refine zPu 2 ?_
   refine zPu 4 ?_
   refine zPu 5 ?_
   refine zPu 6 ?_
   refine zTk2 3 hHeld ?_
   refine zTk2 7 hHeld ?_
   refine zPu 8 ?_
   refine zPu 9 ?_
   refine done_ (done_of HT_.1 (by kernel_rfl)) ?_
   try go_wp2
   replace HO_0:=zM (Kd.R_drew HO_0.1)
   replace HO_2:=zM (Kd.R_drew HO_2.1)
   replace HR853_0:=zM (Kd.C_drew HR853_0.1)
   replace HK:=zM (Kept.drew HK.1)
   replace HB:=zM (below_drew1 HB.1)
   have p854:0≤(x9_1:Int):=zA
   have q854:x9_1<(l1.length:Int):=zA
   obtain ⟨ad854,A854_0,c854_0,e854,hx854_0,hl854_0,hi854_0⟩:=at_L7 (Kd.C_kept_now HR1.1 HK.1) x9_1 p854 q854
   have hw854_0:=hx854_0
   obtain rfl:ad853=ad854:=(by injection e854)
   have hlt854_0:=(Kd.foot_ltS HR1.1 (by omega) (by decide))
   have HR854_0:=zM hi854_0
   have HC854_0:=zM hl854_0
   clear hi854_0 hl854_0
   replace p854:=eq_true p854
   replace q854:=eq_true q854
   obtain ⟨p855,q855,ad855,e855,hx855_0⟩:=zRd (Kd.at_int (Kd.R_reads' HO_2.1).2.2 x9_1)
   obtain rfl:ad852=ad855:=(by injection e855)
   have p856:0≤((rd x2_1 x9_1):Int):=zA
   have q856:(rd x2_1 x9_1)<((rd_L7 l1 x9_1).length:Int):=zA
   obtain ⟨ad856,e856,hx856_0,hx856_1,hx856_2⟩:=at_T37 (zC HR854_0.1) (rd x2_1 x9_1) p856 q856
   cases e856
   have hlt856_2:=foot_in HR1.1 HK.1 _ (of_eq_true p854) (of_eq_true q854) hx854_0 (by omega) (by decide)
   have hlt856_1:=foot_in HR1.1 HK.1 _ (of_eq_true p854) (of_eq_true q854) hx854_0 (by omega) (by decide)
   have hlt856_0:=foot_in HR1.1 HK.1 _ (of_eq_true p854) (of_eq_true q854) hx854_0 (by omega) (by decide)
   replace p856:=eq_true p856
   replace q856:=eq_true q856
   refine start_ (n:=12) (S:=fun w'=>w'.cell? (ad853.add (x9_1).toNat)=some (.slice (some ad856) (rd_L7 l1 x9_1).length c854_0)∧w'.cell? (ad852.add (x9_1).toNat)=some (.int .i64 (rd x2_1 x9_1))∧w'.cell? (ad856.add (((rd x2_1 x9_1)).toNat*3))=some (.int .i64 ((rd_T37 (rd_L7 l1 x9_1) (rd x2_1 x9_1)).f0))∧w'.cell? ⟨(ad856.add (((rd x2_1 x9_1)).toNat*3)).block,(ad856.add (((rd x2_1 x9_1)).toNat*3)).off+1,none⟩=some (.int .i64 ((rd_T37 (rd_L7 l1 x9_1) (rd x2_1 x9_1)).f1))∧w'.cell? ⟨(ad856.add (((rd x2_1 x9_1)).toNat*3)).block,(ad856.add (((rd x2_1 x9_1)).toNat*3)).off+2,none⟩=some (.int .i64 ((rd_T37 (rd_L7 l1 x9_1) (rd x2_1 x9_1)).f2))) (ds:=[]) #[false,false,false,false,false,false,false,false,false,false,false,false] (by kernel_rfl) rfl rfl ⟨hx854_0,hx855_0,hx856_0,hx856_1,hx856_2⟩ (fun hHeld=>?_);refine with_tabW spec_l21Go.tab7 spec_l21Go.bits7 (fun HT_ HW_=>?_)
   generalize w15.drew=w17 at HO_0 HO_2 HR853_0 HK HB HR854_0 hx854_0 hx855_0 hx856_0 hx856_1 hx856_2 hHeld ⊢
   refine zPu 0 ?_
   refine zPu 1 ?_
   refine zPu 2 ?_
   refine zPu 4 ?_
   refine zPu 5 ?_
   refine zPu 6 ?_
   refine zTk5 3 hHeld ?_
   refine zTk5 7 hHeld ?_
   refine zPu 8 ?_
   refine zTk5 9 hHeld ?_
   refine zOn 10 (some 10) fun K hK=>?_
   refine zBs 10 37 #[.int .i64 0,.int .i64 0,.int .i64 0] ?_
   intro gb857 hg w18 hbox hb
   have HS0_:=(hb.cell (World.block_lt_of_cell? _ _ (hHeld.1))).trans (hHeld.1)
   have HS1_:=(hb.cell (World.block_lt_of_cell? _ _ (hHeld.2.1))).trans (hHeld.2.1)
   have HS2_:=(hb.cell (World.block_lt_of_cell? _ _ (hHeld.2.2.1))).trans (hHeld.2.2.1)
   have HS3_:=(hb.cell (World.block_lt_of_cell? _ _ (hHeld.2.2.2.1))).trans (hHeld.2.2.2.1)
   have HS4_:=(hb.cell (World.block_lt_of_cell? _ _ (hHeld.2.2.2.2))).trans (hHeld.2.2.2.2)
   have n0_:=zM (Kd.R_below (zR HO_0.1) hb)
   have n1_:=zM (Kd.R_below (zR HO_2.1) hb)
   have n2_:=zM (Kd.C_below (zC HR853_0.1) hb)
   have n3_:=zM (Kd.C_below (zC HR854_0.1) hb)
   have n4_:=zM (Kept.below (S:=(fun k_=>P0_ k_∨P2_ k_)) zB56 hb)
   have n5_:=zM (below_step zB3 hb)
   have n6_:=zM hbox
   have n7_:=zM ((by rw [hg];exact (by first|exact HK.1.1|exact (show Kept w _ (fun k_=>P0_ k_∨P2_ k_) from zB56).1):w.heap.size≤gb857))
   have n8_:=zM ((by rw [hg];exact (below_size zB3):w0.heap.size≤gb857))
   clear HO_0 HO_2 HR853_0 HR854_0 HK HB
   have HO_0:=n0_
   have HO_2:=n1_
   have HR853_0:=n2_
   have HR854_0:=n3_
   have HK:=n4_
   have HB:=n5_
   have BK857:=n6_
   have GW857:=n7_
   have GE857:=n8_
   clear n0_ n1_ n2_ n3_ n4_ n5_ n6_ n7_ n8_ hb hbox hg
   refine hK.out _ _ ⟨HS0_,HS1_,HS2_,HS3_,HS4_⟩ (fun hHeld=>?_)
   clear hK K
   refine zNo ?_
   refine zOn 11 none fun K hK=>?_
   obtain ⟨hs19,hfs19⟩:=zHs BK857.1 0
   obtain ⟨hs20,hfs20⟩:=zHs BK857.1 1
   obtain ⟨hs21,hfs21⟩:=zHs BK857.1 2
   refine skip_ (w1:=?_) (by rfl) rfl ?_ ?_
   rotate_left
   ·go_simp
    rfl
   have f0_:=zM (Nat.ne_of_lt (Nat.lt_of_lt_of_le (by have h_:=hlt854_0;first|(rw [add_block];exact h_)|(show (Addr.add _ _).block<_;rw [add_block];exact h_)|exact h_) GW857.1))
   have f1_:=zM (Kd.own_blk (Kd.R_ne HO_2.1 BK857.1 (by decide)))
   have f2_:=zM (Nat.ne_of_lt (Nat.lt_of_lt_of_le (by have h_:=hlt856_0;first|(rw [add_block];exact h_)|(show (Addr.add _ _).block<_;rw [add_block];exact h_)|exact h_) GW857.1))
   have f3_:=zM (Nat.ne_of_lt (Nat.lt_of_lt_of_le (by have h_:=hlt856_1;first|(rw [add_block];exact h_)|(show (Addr.add _ _).block<_;rw [add_block];exact h_)|exact h_) GW857.1))
   have f4_:=zM (Nat.ne_of_lt (Nat.lt_of_lt_of_le (by have h_:=hlt856_2;first|(rw [add_block];exact h_)|(show (Addr.add _ _).block<_;rw [add_block];exact h_)|exact h_) GW857.1))
   refine hK.out _ _ zCt fun hHeld=>?_
   clear hK K
   refine done_ (done_of HT_.1 (by kernel_rfl)) ?_
   go_upto_region 8 with (fail)
   go_cut [58] (fun v58 wc=>∃(kq:Nat) (x58_13:Bool),v58= .bool x58_13∧Aside0 (spec_l21Go.j1 kq x0_1 l1 x2_1 a3 x9_1 x58_13 ((rd_T37 (rd_L7 l1 x9_1) (rd x2_1 x9_1)).f0) ((rd_T37 (rd_L7 l1 x9_1) (rd x2_1 x9_1)).f1) ((rd_T37 (rd_L7 l1 x9_1) (rd x2_1 x9_1)).f2)=some (r1,r2,r3))∧Aside0 (kq≤k1)∧Aside0 (Kd.R (Kd.int .i64) 3 wc w0.heap.size (fun k_=>((P0_ k_∨P2_ k_)∨w.heap.size≤k_)∧some k_≠((.slice (some ad852) x2_1.length co16):Value).ownBlock) u9000_ x0_1)∧Aside0 (Kd.R (Kd.int .i64) 3 wc w0.heap.size (fun k_=>((P0_ k_∨P2_ k_)∨w.heap.size≤k_)∧some k_≠(u9000_:Value).ownBlock) (.slice (some ad852) x2_1.length co16) x2_1)∧Aside0 (wc.heap[gb857]? =some (.cells #[.int .i64 ((rd_T37 (rd_L7 l1 x9_1) (rd x2_1 x9_1)).f0),.int .i64 ((rd_T37 (rd_L7 l1 x9_1) (rd x2_1 x9_1)).f1),.int .i64 ((rd_T37 (rd_L7 l1 x9_1) (rd x2_1 x9_1)).f2)] 37 (0,0)))∧Aside0 (Kept w wc (fun k_=>P0_ k_∨P2_ k_))∧Aside0 (Below w0.heap.size w0 wc))
   case first=>
    have H:=HC14.1
    clear HC14
    replace H:=zO H
    obtain ⟨t858,A22,H⟩:=H
    by_cases c23:t858=true
    rotate_left
    ·replace c23:=Bool.eq_false_iff.mpr c23
     subst c23
     rw [if_neg zF] at H
     have H':=zM H
     clear H
     try go_wp2
     generalize hw_:(((w18.setCell ⟨gb857,0,none⟩ (.int .i64 ((rd_T37 (rd_L7 l1 x9_1) (rd x2_1 x9_1)).f0))).setCell ⟨gb857,1,none⟩ (.int .i64 ((rd_T37 (rd_L7 l1 x9_1) (rd x2_1 x9_1)).f1))).setCell ⟨gb857,2,none⟩ (.int .i64 ((rd_T37 (rd_L7 l1 x9_1) (rd x2_1 x9_1)).f2)))=w32
     have n0_:Aside0 (Kd.R (Kd.int .i64) 3 w32 w0.heap.size (fun k_=>((P0_ k_∨P2_ k_)∨w.heap.size≤k_)∧some k_≠(.slice (some ad852) x2_1.length co16:Value).ownBlock) u9000_ x0_1):=⟨by rw [←hw_];refine zrR ?_;exact Kd.R_mono (zfR (zfR (zfR (Kd.R_types HO_0.1 BK857.1 (by decide))))) (fun _ hk=>⟨hk.1.1,hk.1.2⟩)⟩
     have n1_:Aside0 (Kd.R (Kd.int .i64) 3 w32 w0.heap.size (fun k_=>((P0_ k_∨P2_ k_)∨w.heap.size≤k_)∧some k_≠(u9000_:Value).ownBlock) (.slice (some ad852) x2_1.length co16) x2_1):=⟨by rw [←hw_];refine zrR ?_;exact Kd.R_mono (zfR (zfR (zfR (Kd.R_types HO_2.1 BK857.1 (by decide))))) (fun _ hk=>⟨hk.1.1,hk.1.2⟩)⟩
     have n2_:Aside0 (w32.heap[gb857]? =some (.cells #[.int .i64 ((rd_T37 (rd_L7 l1 x9_1) (rd x2_1 x9_1)).f0),.int .i64 ((rd_T37 (rd_L7 l1 x9_1) (rd x2_1 x9_1)).f1),.int .i64 ((rd_T37 (rd_L7 l1 x9_1) (rd x2_1 x9_1)).f2)] 37 (0,0))):=⟨by rw [←hw_];exact zp3 (zK BK857.1)⟩
     have n3_:Aside0 (Kept w w32 (fun k_=>P0_ k_∨P2_ k_)):=⟨by rw [←hw_];exact zB110⟩
     have n4_:Aside0 (Below w0.heap.size w0 w32):=⟨by rw [←hw_];exact zB3⟩
     (try clear HO_0)
     (try clear HO_2)
     (try clear BK857)
     (try clear HK)
     (try clear HB)
     clear hw_
     have HO_0:=n0_
     have HO_2:=n1_
     have BK857:=n2_
     have HK:=n3_
     have HB:=n4_
     clear n0_ n1_ n2_ n3_ n4_
     replace HO_0:=zM (Kd.R_drew HO_0.1)
     replace HO_2:=zM (Kd.R_drew HO_2.1)
     replace BK857:=zM (blk_drew BK857.1)
     replace HK:=zM (Kept.drew HK.1)
     replace HB:=zM (below_drew1 HB.1)
     refine start_ (n:=19) (S:=fun w'=>w'.cell? ⟨gb857,0,none⟩=some (.int .i64 ((rd_T37 (rd_L7 l1 x9_1) (rd x2_1 x9_1)).f0))∧w'.cell? ⟨gb857,1,none⟩=some (.int .i64 ((rd_T37 (rd_L7 l1 x9_1) (rd x2_1 x9_1)).f1))∧w'.cell? ⟨gb857,2,none⟩=some (.int .i64 ((rd_T37 (rd_L7 l1 x9_1) (rd x2_1 x9_1)).f2))) (ds:=[]) zq18_11 (by kernel_rfl) rfl rfl ⟨(blk_cell BK857.1 0).trans rfl,(blk_cell BK857.1 1).trans rfl,(blk_cell BK857.1 2).trans rfl⟩ (fun hHeld=>?_);refine with_tabW spec_l21Go.tab8 spec_l21Go.bits8 (fun HT_ HW_=>?_)
     generalize w32.drew=w33 at HO_0 HO_2 BK857 HK HB hHeld ⊢
     refine zPu 0 ?_
     refine zTk3 1 hHeld ?_
     refine zOn 2 (some 42) fun K hK=>?_
     refine zGs Try.func46 #[.int .i64 ((rd_T37 (rd_L7 l1 x9_1) (rd x2_1 x9_1)).f0),.int .i64 0,.int .i64 23] ?_
     with_reducible refine (spec_l1In.calls ((rd_T37 (rd_L7 l1 x9_1) (rd x2_1 x9_1)).f0) 0 23 false _ A22.1).mono ?_
     rintro e w' ⟨rfl,⟨nd,rfl⟩⟩
     refine ⟨_,rfl,?_⟩
     refine hK.out _ _ zCs fun hHeld=>?_
     clear hK K
     refine zNo ?_
     refine zPu 3 ?_
     refine zPu 4 ?_
     refine zPn 5 ?_
     refine zPn 6 ?_
     refine zPn 7 ?_
     refine zPn 8 ?_
     refine zPn 9 ?_
     refine zPn 10 ?_
     refine zPn 11 ?_
     refine zPn 12 ?_
     refine zPn 13 ?_
     refine zPn 14 ?_
     refine zPn 15 ?_
     refine zPn 16 ?_
     refine zPn 17 ?_
     refine zPu 18 ?_
     refine done_ (done_of HT_.1 (by kernel_rfl)) ?_
     try go_wp2
     go_meet
     case rel=>exact ⟨_,(true),zJJ,H',⟨by have:=HK1.1;first|omega|exact Nat.le_refl _⟩,⟨zR HO_0.1⟩,⟨zR HO_2.1⟩,⟨zK BK857.1⟩,⟨zB110⟩,⟨zB3⟩⟩
    subst c23
    rw [if_pos rfl] at H
    by_cases c24:((rd_T37 (rd_L7 l1 x9_1) (rd x2_1 x9_1)).f1)≥0
    rotate_left
    ·rw [if_neg c24] at H
     have c24b0:=decide_eq_false c24
     clear c24
     (first|rw [c24b0]|(simp only [i64_w,i32_w];rw [c24b0])|skip)
     have H':=zM H
     clear H
     try go_wp2
     generalize hw_:(((w18.setCell ⟨gb857,0,none⟩ (.int .i64 ((rd_T37 (rd_L7 l1 x9_1) (rd x2_1 x9_1)).f0))).setCell ⟨gb857,1,none⟩ (.int .i64 ((rd_T37 (rd_L7 l1 x9_1) (rd x2_1 x9_1)).f1))).setCell ⟨gb857,2,none⟩ (.int .i64 ((rd_T37 (rd_L7 l1 x9_1) (rd x2_1 x9_1)).f2)))=w30
     have n0_:Aside0 (Kd.R (Kd.int .i64) 3 w30 w0.heap.size (fun k_=>((P0_ k_∨P2_ k_)∨w.heap.size≤k_)∧some k_≠(.slice (some ad852) x2_1.length co16:Value).ownBlock) u9000_ x0_1):=⟨by rw [←hw_];refine zrR ?_;exact Kd.R_mono (zfR (zfR (zfR (Kd.R_types HO_0.1 BK857.1 (by decide))))) (fun _ hk=>⟨hk.1.1,hk.1.2⟩)⟩
     have n1_:Aside0 (Kd.R (Kd.int .i64) 3 w30 w0.heap.size (fun k_=>((P0_ k_∨P2_ k_)∨w.heap.size≤k_)∧some k_≠(u9000_:Value).ownBlock) (.slice (some ad852) x2_1.length co16) x2_1):=⟨by rw [←hw_];refine zrR ?_;exact Kd.R_mono (zfR (zfR (zfR (Kd.R_types HO_2.1 BK857.1 (by decide))))) (fun _ hk=>⟨hk.1.1,hk.1.2⟩)⟩
     have n2_:Aside0 (w30.heap[gb857]? =some (.cells #[.int .i64 ((rd_T37 (rd_L7 l1 x9_1) (rd x2_1 x9_1)).f0),.int .i64 ((rd_T37 (rd_L7 l1 x9_1) (rd x2_1 x9_1)).f1),.int .i64 ((rd_T37 (rd_L7 l1 x9_1) (rd x2_1 x9_1)).f2)] 37 (0,0))):=⟨by rw [←hw_];exact zp3 (zK BK857.1)⟩
     have n3_:Aside0 (Kept w w30 (fun k_=>P0_ k_∨P2_ k_)):=⟨by rw [←hw_];exact zB110⟩
     have n4_:Aside0 (Below w0.heap.size w0 w30):=⟨by rw [←hw_];exact zB3⟩
     (try clear HO_0)
     (try clear HO_2)
     (try clear BK857)
     (try clear HK)
     (try clear HB)
     clear hw_
     have HO_0:=n0_
     have HO_2:=n1_
     have BK857:=n2_
     have HK:=n3_
     have HB:=n4_
     clear n0_ n1_ n2_ n3_ n4_
     replace HO_0:=zM (Kd.R_drew HO_0.1)
     replace HO_2:=zM (Kd.R_drew HO_2.1)
     replace BK857:=zM (blk_drew BK857.1)
     replace HK:=zM (Kept.drew HK.1)
     replace HB:=zM (below_drew1 HB.1)
     refine start_ (n:=19) (S:=fun w'=>w'.cell? ⟨gb857,0,none⟩=some (.int .i64 ((rd_T37 (rd_L7 l1 x9_1) (rd x2_1 x9_1)).f0))∧w'.cell? ⟨gb857,1,none⟩=some (.int .i64 ((rd_T37 (rd_L7 l1 x9_1) (rd x2_1 x9_1)).f1))∧w'.cell? ⟨gb857,2,none⟩=some (.int .i64 ((rd_T37 (rd_L7 l1 x9_1) (rd x2_1 x9_1)).f2))) (ds:=[]) zq18_11 (by kernel_rfl) rfl rfl ⟨(blk_cell BK857.1 0).trans rfl,(blk_cell BK857.1 1).trans rfl,(blk_cell BK857.1 2).trans rfl⟩ (fun hHeld=>?_);refine with_tabW spec_l21Go.tab8 spec_l21Go.bits8 (fun HT_ HW_=>?_)
     generalize w30.drew=w31 at HO_0 HO_2 BK857 HK HB hHeld ⊢
     refine zPu 0 ?_
     refine zTk3 1 hHeld ?_
     refine zOn 2 (some 42) fun K hK=>?_
     refine zGs Try.func46 #[.int .i64 ((rd_T37 (rd_L7 l1 x9_1) (rd x2_1 x9_1)).f0),.int .i64 0,.int .i64 23] ?_
     with_reducible refine (spec_l1In.calls ((rd_T37 (rd_L7 l1 x9_1) (rd x2_1 x9_1)).f0) 0 23 true _ A22.1).mono ?_
     rintro e w' ⟨rfl,⟨nd,rfl⟩⟩
     refine ⟨_,rfl,?_⟩
     refine hK.out _ _ zCs fun hHeld=>?_
     clear hK K
     refine zNo ?_
     refine zPu 3 ?_
     refine zPu 4 ?_
     refine zPu 5 ?_
     refine zTk3 6 hHeld ?_
     refine zPu 7 ?_
     refine zPu 8 ?_
     refine zPn 9 ?_
     refine zPn 10 ?_
     refine zPn 11 ?_
     refine zPn 12 ?_
     refine zPn 13 ?_
     refine zPn 14 ?_
     refine zPn 15 ?_
     refine zPn 16 ?_
     refine zPu 17 ?_
     refine zPu 18 ?_
     refine done_ (done_of HT_.1 (by kernel_rfl)) ?_
     try go_wp2
     go_meet
     case rel=>exact ⟨_,(false),zJJ,H',⟨by have:=HK1.1;first|omega|exact Nat.le_refl _⟩,⟨zR HO_0.1⟩,⟨zR HO_2.1⟩,⟨zK BK857.1⟩,⟨zB110⟩,⟨zB3⟩⟩
    rw [if_pos c24] at H
    have c24b0:=decide_eq_true c24
    clear c24
    (first|rw [c24b0]|(simp only [i64_w,i32_w];rw [c24b0])|skip)
    replace H:=zIt H
    obtain ⟨c25b0,H⟩:=H
    replace H:=zIt H
    obtain ⟨c26b0,H⟩:=H
    have H':=zM H
    clear H
    try go_wp2
    generalize hw_:(((w18.setCell ⟨gb857,0,none⟩ (.int .i64 ((rd_T37 (rd_L7 l1 x9_1) (rd x2_1 x9_1)).f0))).setCell ⟨gb857,1,none⟩ (.int .i64 ((rd_T37 (rd_L7 l1 x9_1) (rd x2_1 x9_1)).f1))).setCell ⟨gb857,2,none⟩ (.int .i64 ((rd_T37 (rd_L7 l1 x9_1) (rd x2_1 x9_1)).f2)))=w27
    have n0_:Aside0 (Kd.R (Kd.int .i64) 3 w27 w0.heap.size (fun k_=>((P0_ k_∨P2_ k_)∨w.heap.size≤k_)∧some k_≠(.slice (some ad852) x2_1.length co16:Value).ownBlock) u9000_ x0_1):=⟨by rw [←hw_];refine zrR ?_;exact Kd.R_mono (zfR (zfR (zfR (Kd.R_types HO_0.1 BK857.1 (by decide))))) (fun _ hk=>⟨hk.1.1,hk.1.2⟩)⟩
    have n1_:Aside0 (Kd.R (Kd.int .i64) 3 w27 w0.heap.size (fun k_=>((P0_ k_∨P2_ k_)∨w.heap.size≤k_)∧some k_≠(u9000_:Value).ownBlock) (.slice (some ad852) x2_1.length co16) x2_1):=⟨by rw [←hw_];refine zrR ?_;exact Kd.R_mono (zfR (zfR (zfR (Kd.R_types HO_2.1 BK857.1 (by decide))))) (fun _ hk=>⟨hk.1.1,hk.1.2⟩)⟩
    have n2_:Aside0 (w27.heap[gb857]? =some (.cells #[.int .i64 ((rd_T37 (rd_L7 l1 x9_1) (rd x2_1 x9_1)).f0),.int .i64 ((rd_T37 (rd_L7 l1 x9_1) (rd x2_1 x9_1)).f1),.int .i64 ((rd_T37 (rd_L7 l1 x9_1) (rd x2_1 x9_1)).f2)] 37 (0,0))):=⟨by rw [←hw_];exact zp3 (zK BK857.1)⟩
    have n3_:Aside0 (Kept w w27 (fun k_=>P0_ k_∨P2_ k_)):=⟨by rw [←hw_];exact zB110⟩
    have n4_:Aside0 (Below w0.heap.size w0 w27):=⟨by rw [←hw_];exact zB3⟩
    (try clear HO_0)
    (try clear HO_2)
    (try clear BK857)
    (try clear HK)
    (try clear HB)
    clear hw_
    have HO_0:=n0_
    have HO_2:=n1_
    have BK857:=n2_
    have HK:=n3_
    have HB:=n4_
    clear n0_ n1_ n2_ n3_ n4_
    replace HO_0:=zM (Kd.R_drew HO_0.1)
    replace HO_2:=zM (Kd.R_drew HO_2.1)
    replace BK857:=zM (blk_drew BK857.1)
    replace HK:=zM (Kept.drew HK.1)
    replace HB:=zM (below_drew1 HB.1)
    have p859:0≤(((rd_T37 (rd_L7 l1 x9_1) (rd x2_1 x9_1)).f0):Int):=zA
    have q859:((rd_T37 (rd_L7 l1 x9_1) (rd x2_1 x9_1)).f0)<(x0_1.length:Int):=zA
    (try (obtain ⟨Aoz_,coz_,eoz_⟩:=Kd.R_slice HO_0.1;subst eoz_))
    obtain ⟨ad859,e859,hx859_0⟩:=Kd.at_int (Kd.R_reads' HO_0.1).2.2 ((rd_T37 (rd_L7 l1 x9_1) (rd x2_1 x9_1)).f0) p859 q859
    cases e859
    replace p859:=eq_true p859
    replace q859:=eq_true q859
    refine start_ (n:=19) (S:=fun w'=>w'.cell? ⟨gb857,0,none⟩=some (.int .i64 ((rd_T37 (rd_L7 l1 x9_1) (rd x2_1 x9_1)).f0))∧w'.cell? ⟨gb857,1,none⟩=some (.int .i64 ((rd_T37 (rd_L7 l1 x9_1) (rd x2_1 x9_1)).f1))∧w'.cell? ⟨gb857,2,none⟩=some (.int .i64 ((rd_T37 (rd_L7 l1 x9_1) (rd x2_1 x9_1)).f2))∧w'.cell? (ad859.add (((rd_T37 (rd_L7 l1 x9_1) (rd x2_1 x9_1)).f0)).toNat)=some (.int .i64 (rd x0_1 ((rd_T37 (rd_L7 l1 x9_1) (rd x2_1 x9_1)).f0)))) (ds:=[]) zq18_11 (by kernel_rfl) rfl rfl ⟨(blk_cell BK857.1 0).trans rfl,(blk_cell BK857.1 1).trans rfl,(blk_cell BK857.1 2).trans rfl,hx859_0⟩ (fun hHeld=>?_);refine with_tabW spec_l21Go.tab8 spec_l21Go.bits8 (fun HT_ HW_=>?_)
    generalize w27.drew=w28 at HO_0 HO_2 BK857 HK HB hx859_0 hHeld ⊢
    refine zPu 0 ?_
    refine zTk4 1 hHeld ?_
    refine zOn 2 (some 42) fun K hK=>?_
    refine zGs Try.func46 #[.int .i64 ((rd_T37 (rd_L7 l1 x9_1) (rd x2_1 x9_1)).f0),.int .i64 0,.int .i64 23] ?_
    with_reducible refine (spec_l1In.calls ((rd_T37 (rd_L7 l1 x9_1) (rd x2_1 x9_1)).f0) 0 23 true _ A22.1).mono ?_
    rintro e w' ⟨rfl,⟨nd,rfl⟩⟩
    refine ⟨_,rfl,?_⟩
    obtain ⟨Ao29,co29,eo29⟩:=Kd.R_slice HO_0.1
    (first|subst eo29|(injection eo29 with f1_ f2_ f3_;have f4_:=f1_.symm;have f5_:=f3_.symm;clear f1_ f2_ f3_;subst f4_;subst f5_))
    refine hK.out _ _ ⟨(blk_cell BK857.1 0).trans rfl,(blk_cell BK857.1 1).trans rfl,(blk_cell BK857.1 2).trans rfl,hHeld.2.2.2⟩ (fun hHeld=>?_)
    clear hK K
    refine zNo ?_
    refine zPu 3 ?_
    refine zPu 4 ?_
    refine zPu 5 ?_
    refine zTk4 6 hHeld ?_
    refine zPu 7 ?_
    refine zPu 8 ?_
    refine zPu 9 ?_
    refine zPu 11 ?_
    refine zPu 12 ?_
    refine zTk4 10 hHeld ?_
    refine zTk4 13 hHeld ?_
    refine zPu 14 ?_
    refine zTk4 15 hHeld ?_
    refine zPu 16 ?_
    refine zPu 17 ?_
    refine zPu 18 ?_
    refine done_ (done_of HT_.1 (by kernel_rfl)) ?_
    try go_wp2
    go_meet
    case rel=>exact ⟨_,((((rd_T37 (rd_L7 l1 x9_1) (rd x2_1 x9_1)).f1) != (rd x0_1 ((rd_T37 (rd_L7 l1 x9_1) (rd x2_1 x9_1)).f0)))),zJJ,H',⟨by have:=HK1.1;first|omega|exact Nat.le_refl _⟩,⟨zR HO_0.1⟩,⟨zR HO_2.1⟩,⟨zK BK857.1⟩,⟨zB110⟩,⟨zB3⟩⟩
   case rest=>
    clear HC14
    obtain ⟨kq,x58_13,rfl,HA,HJ13,HO_0,HO_2,BK857,HK,HB⟩:=hcut
    cases kq with
    |zero=>exact absurd HA.1 (by simp [spec_l21Go.j1])
    |succ kj13=>
     have H:=HA.1
     clear HA
     simp only [spec_l21Go.j1] at H
     by_cases c34:x58_13=true
     ·subst c34
      rw [if_pos rfl] at H
      have H':=zM H
      clear H
      go_wp2
      go_roundg kj13
      case measure=>have:=HK1.1;have:=HJ13.1;omega
      case rel=>exact ⟨(x0_1),(x2_1),(wrap64 (x9_1+1)),zJJ,H',⟨by have:=HK1.1;have:=HJ13.1;omega⟩,⟨zR HO_0.1⟩,⟨zR HO_2.1⟩,⟨zB110⟩,⟨zB3⟩⟩
     replace c34:=Bool.eq_false_iff.mpr c34
     subst c34
     rw [if_neg zF] at H
     replace H:=zIt H
     obtain ⟨c35b0,H⟩:=H
     replace H:=zIt H
     obtain ⟨c36b0,H⟩:=H
     by_cases c37:((rd_T37 (rd_L7 l1 x9_1) (rd x2_1 x9_1)).f2)≥0
     rotate_left
     ·rw [if_neg c37] at H
      have c37b0:=decide_eq_false c37
      clear c37
      replace H:=zIt H
      obtain ⟨c65b0,H⟩:=H
      replace H:=zIt H
      obtain ⟨c66b0,H⟩:=H
      generalize hy871:((x2_1.set (x9_1:Int).toNat (wrap64 ((rd x2_1 x9_1)+1))):List Int)=y871 at H
      have Ny871:=zM hy871.symm
      clear hy871
      replace H:=zO H
      obtain ⟨⟨t872,t873,t874⟩,A68,H⟩:=H
      try dsimp only at H
      by_cases c69:t872=true
      ·subst c69
       rw [if_pos rfl] at H
       simp only [Option.some.injEq,Prod.mk.injEq] at H
       obtain ⟨rfl,rfl,rfl⟩:=H
       have hcz70:=zc_3 (w:=wc) BK857.1
       obtain ⟨Ao71,co71,eo71⟩:=Kd.R_slice HO_0.1
       subst eo71
       have p860:0≤(((rd_T37 (rd_L7 l1 x9_1) (rd x2_1 x9_1)).f0):Int):=zA
       have q860:((rd_T37 (rd_L7 l1 x9_1) (rd x2_1 x9_1)).f0)<(x0_1.length:Int):=zA
       (try (obtain ⟨Aoz_,coz_,eoz_⟩:=Kd.R_slice HO_0.1;subst eoz_))
       obtain ⟨ad860,e860,hx860_0⟩:=Kd.at_int (Kd.R_reads' HO_0.1).2.2 ((rd_T37 (rd_L7 l1 x9_1) (rd x2_1 x9_1)).f0) p860 q860
       cases e860
       replace p860:=eq_true p860
       replace q860:=eq_true q860
       obtain ⟨p870,q870,ad870,e870,hx870_0⟩:=zRd (Kd.at_int (Kd.R_reads' HO_2.1).2.2 x9_1)
       obtain rfl:ad852=ad870:=(by injection e870)
       have p67:0≤(x9_1:Int):=zA
       have q67:(x9_1:Int)<((x2_1.length:Int):Int):=zA
       obtain ⟨go67,co67,eo67,gb67,gl67,cl67,HG67⟩:=Kd.R_form HO_2.1 (by first|omega|(have hl_:=(Kd.R_reads' HO_2.1).1;omega))
       (first|cases eo67|(injection eo67 with ea_ en_ ec_;(first|subst ea_|(injection ea_ with ea_;subst ea_));subst ec_;clear en_))
       have GB67:=zM gb67
       have GG67:=zM HG67
       clear gb67 gl67 HG67
       have HMgo67:=zM (show ((P0_ go67∨P2_ go67)∨w.heap.size≤go67) from (HO_2.1.1 _ rfl).1)
       (first|simp only [add_plain] at hx870_0|skip)
       obtain ⟨hx67_0,hf67_0⟩:=Kd.R_celln 0 HO_2.1 (x9_1:Int) p67 q67
       replace p67:=eq_true p67
       replace q67:=eq_true q67
       have HP72:=Kd.R_putg HO_2.1 (x9_1:Int) (wrap64 ((rd x2_1 x9_1)+1))
       go_wp2_with (first|((with_reducible refine gate_store (t:=3) (p:=80) rfl ?_);refine store_event (t:=3) (p:=80) (v:=?vo_w73) (w1:=(wc.setCell ⟨go67,(x9_1:Int).toNat,none⟩ (.int .i64 (wrap64 ((rd x2_1 x9_1)+1))))) ?hg ?ho ?hn ?hr ?_;(case ho=>rfl);(case hg=>rfl);(case hn=>rfl);(case hr=>exact zHH);intro w73 hw;have hg:wc.grownBy w73 (some go67):=(by rw [hw];exact HP72.2);have hp_:Kd.R (Kd.int .i64) 3 w73 w0.heap.size (fun k_=>((P0_ k_∨P2_ k_)∨w.heap.size≤k_)∧some k_≠(.slice (some ad860) x0_1.length co71:Value).ownBlock) (.slice (some ⟨go67,0,none⟩) x2_1.length co16) y871:=(by rw [hw,Ny871.1];exact HP72.1);clear HP72;replace HO_0:=zM (Kd.R_after (v:=(.slice (some ⟨go67,0,none⟩) x2_1.length co16)) (v1:=(.slice (some ⟨go67,0,none⟩) x2_1.length co16)) (ok:=(fun k_=>((P0_ k_∨P2_ k_)∨w.heap.size≤k_))) (zR HO_0.1) hg (.inl rfl));replace BK857:=zM (zg BK857.1 hg (Kd.R_ne HO_2.1 BK857.1 (by decide)));replace HB:=zM ((by rw [hw];exact below_set (HB.1) GB67.1:Below w0.heap.size w0 w73));replace HK:=zM (Kept.of_grown (S:=(fun k_=>P0_ k_∨P2_ k_)) hg zB110 (fun k_ e_=>(HO_2.1.1 k_ e_).1));replace HO_2:=zM hp_;clear hg hw hp_)|((with_reducible refine zG Try.func49 86 #[.slice (some ad860) x0_1.length co71,.slice (some ad853) l1.length c1,.slice (some ⟨go67,0,none⟩) x2_1.length co16,.int .i64 (wrap64 (a3-1))] ?_);(with_reducible refine (ih kj13 (by have:=HK1.1;have:=HJ13.1;omega) (fun k_=>some k_=(.slice (some ad860) x0_1.length co71:Value).ownBlock) (.slice (some ad860) x0_1.length co71) x0_1 _ _ l1 (fun k_=>some k_=(.slice (some ⟨go67,0,none⟩) x2_1.length co16:Value).ownBlock) (.slice (some ⟨go67,0,none⟩) x2_1.length co16) y871 (wrap64 (a3-1)) true t873 t874 w0 _ ?side1 ?side2 ?side3 ?side4 ?side5 ?side6 ?side7 A68.1).mono ?_);(case side1=>exact zB3);(case side2=>exact Kd.R_tight rfl HO_0.1);(case side3=>exact fun k_ e_=>(HO_0.1.1 k_ e_.symm).2);(case side4=>exact Kd.C_kept_call HR1.1 zB110 (fun k_ hs_=>Or.elim hs_ (fun e_=>(fun e_=>(HO_0.1.1 k_ e_.symm).1) e_) (fun e_=>(fun e_=>(HO_2.1.1 k_ e_.symm).1) e_)));(case side5=>exact HC1.1);(case side6=>exact Kd.R_tight rfl HO_2.1);(case side7=>exact fun k_ e_=>(HO_2.1.1 k_ e_.symm).2);rintro e w74 ⟨rfl,hy0,hy1,hb,hkp⟩;refine ⟨_,rfl,?_⟩;replace BK857:=zM (blk_kept (zK BK857.1) hkp (fun hs_=>Or.elim hs_ (fun e_=>(fun e_=>(Kd.R_ne HO_0.1 BK857.1 (by decide)) e_) e_) (fun e_=>(fun e_=>(Kd.R_ne HO_2.1 BK857.1 (by decide)) e_) e_)));replace HK:=zM (Kept.then_ (S:=(fun k_=>P0_ k_∨P2_ k_)) zB110 hkp (fun k_ hs_=>Or.elim hs_ (fun e_=>(fun e_=>(HO_0.1.1 k_ e_.symm).1) e_) (fun e_=>(fun e_=>(HO_2.1.1 k_ e_.symm).1) e_)));replace HO_0:=zM (Kd.R_reok rfl hy0 (fun k_ e_=>HO_0.1.1 k_ e_));replace HO_2:=zM (Kd.R_reok rfl hy1 (fun k_ e_=>HO_2.1.1 k_ e_));replace HB:=zM hb;clear hb hkp hy0 hy1))
       go_ret
       exact ⟨zE,by refine zrR ?_;exact Kd.R_mono HO_0.1 (fun _ hk=>hk.1),by refine zrR ?_;exact Kd.R_mono HO_2.1 (fun _ hk=>hk.1),zB3,zB110⟩
      replace c69:=Bool.eq_false_iff.mpr c69
      subst c69
      rw [if_neg zF] at H
      generalize hy876:((t874.set (x9_1:Int).toNat (wrap64 ((rd t874 x9_1)-1))):List Int)=y876 at H
      have Ny876:=zM hy876.symm
      clear hy876
      generalize hy877:((t873.set (((rd_T37 (rd_L7 l1 x9_1) (rd x2_1 x9_1)).f0):Int).toNat (rd x0_1 ((rd_T37 (rd_L7 l1 x9_1) (rd x2_1 x9_1)).f0))):List Int)=y877 at H
      have Ny877:=zM hy877.symm
      clear hy877
      have H':=zM H
      clear H
      have hcz77:=zc_3 (w:=wc) BK857.1
      obtain ⟨Ao78,co78,eo78⟩:=Kd.R_slice HO_0.1
      subst eo78
      have p860:0≤(((rd_T37 (rd_L7 l1 x9_1) (rd x2_1 x9_1)).f0):Int):=zA
      have q860:((rd_T37 (rd_L7 l1 x9_1) (rd x2_1 x9_1)).f0)<(x0_1.length:Int):=zA
      (try (obtain ⟨Aoz_,coz_,eoz_⟩:=Kd.R_slice HO_0.1;subst eoz_))
      obtain ⟨ad860,e860,hx860_0⟩:=Kd.at_int (Kd.R_reads' HO_0.1).2.2 ((rd_T37 (rd_L7 l1 x9_1) (rd x2_1 x9_1)).f0) p860 q860
      cases e860
      replace p860:=eq_true p860
      replace q860:=eq_true q860
      obtain ⟨p870,q870,ad870,e870,hx870_0⟩:=zRd (Kd.at_int (Kd.R_reads' HO_2.1).2.2 x9_1)
      obtain rfl:ad852=ad870:=(by injection e870)
      have p67:0≤(x9_1:Int):=zA
      have q67:(x9_1:Int)<((x2_1.length:Int):Int):=zA
      obtain ⟨go67,co67,eo67,gb67,gl67,cl67,HG67⟩:=Kd.R_form HO_2.1 (by first|omega|(have hl_:=(Kd.R_reads' HO_2.1).1;omega))
      (first|cases eo67|(injection eo67 with ea_ en_ ec_;(first|subst ea_|(injection ea_ with ea_;subst ea_));subst ec_;clear en_))
      have GB67:=zM gb67
      have GG67:=zM HG67
      clear gb67 gl67 HG67
      have HMgo67:=zM (show ((P0_ go67∨P2_ go67)∨w.heap.size≤go67) from (HO_2.1.1 _ rfl).1)
      (first|simp only [add_plain] at hx870_0|skip)
      obtain ⟨hx67_0,hf67_0⟩:=Kd.R_celln 0 HO_2.1 (x9_1:Int) p67 q67
      replace p67:=eq_true p67
      replace q67:=eq_true q67
      have HP79:=Kd.R_putg HO_2.1 (x9_1:Int) (wrap64 ((rd x2_1 x9_1)+1))
      go_wp2_with (first|((with_reducible refine gate_store (t:=3) (p:=80) rfl ?_);refine store_event (t:=3) (p:=80) (v:=?vo_w80) (w1:=(wc.setCell ⟨go67,(x9_1:Int).toNat,none⟩ (.int .i64 (wrap64 ((rd x2_1 x9_1)+1))))) ?hg ?ho ?hn ?hr ?_;(case ho=>rfl);(case hg=>rfl);(case hn=>rfl);(case hr=>exact zHH);intro w80 hw;have hg:wc.grownBy w80 (some go67):=(by rw [hw];exact HP79.2);have hp_:Kd.R (Kd.int .i64) 3 w80 w0.heap.size (fun k_=>((P0_ k_∨P2_ k_)∨w.heap.size≤k_)∧some k_≠(.slice (some ad860) x0_1.length co78:Value).ownBlock) (.slice (some ⟨go67,0,none⟩) x2_1.length co16) y871:=(by rw [hw,Ny871.1];exact HP79.1);clear HP79;replace HO_0:=zM (Kd.R_after (v:=(.slice (some ⟨go67,0,none⟩) x2_1.length co16)) (v1:=(.slice (some ⟨go67,0,none⟩) x2_1.length co16)) (ok:=(fun k_=>((P0_ k_∨P2_ k_)∨w.heap.size≤k_))) (zR HO_0.1) hg (.inl rfl));replace BK857:=zM (zg BK857.1 hg (Kd.R_ne HO_2.1 BK857.1 (by decide)));replace HB:=zM ((by rw [hw];exact below_set (HB.1) GB67.1:Below w0.heap.size w0 w80));replace HK:=zM (Kept.of_grown (S:=(fun k_=>P0_ k_∨P2_ k_)) hg zB110 (fun k_ e_=>(HO_2.1.1 k_ e_).1));replace HO_2:=zM hp_;clear hg hw hp_)|((with_reducible refine zG Try.func49 86 #[.slice (some ad860) x0_1.length co78,.slice (some ad853) l1.length c1,.slice (some ⟨go67,0,none⟩) x2_1.length co16,.int .i64 (wrap64 (a3-1))] ?_);(with_reducible refine (ih kj13 (by have:=HK1.1;have:=HJ13.1;omega) (fun k_=>some k_=(.slice (some ad860) x0_1.length co78:Value).ownBlock) (.slice (some ad860) x0_1.length co78) x0_1 _ _ l1 (fun k_=>some k_=(.slice (some ⟨go67,0,none⟩) x2_1.length co16:Value).ownBlock) (.slice (some ⟨go67,0,none⟩) x2_1.length co16) y871 (wrap64 (a3-1)) false t873 t874 w0 _ ?side1 ?side2 ?side3 ?side4 ?side5 ?side6 ?side7 A68.1).mono ?_);(case side1=>exact zB3);(case side2=>exact Kd.R_tight rfl HO_0.1);(case side3=>exact fun k_ e_=>(HO_0.1.1 k_ e_.symm).2);(case side4=>exact Kd.C_kept_call HR1.1 zB110 (fun k_ hs_=>Or.elim hs_ (fun e_=>(fun e_=>(HO_0.1.1 k_ e_.symm).1) e_) (fun e_=>(fun e_=>(HO_2.1.1 k_ e_.symm).1) e_)));(case side5=>exact HC1.1);(case side6=>exact Kd.R_tight rfl HO_2.1);(case side7=>exact fun k_ e_=>(HO_2.1.1 k_ e_.symm).2);rintro e w81 ⟨rfl,hy0,hy1,hb,hkp⟩;refine ⟨_,rfl,?_⟩;replace BK857:=zM (blk_kept (zK BK857.1) hkp (fun hs_=>Or.elim hs_ (fun e_=>(fun e_=>(Kd.R_ne HO_0.1 BK857.1 (by decide)) e_) e_) (fun e_=>(fun e_=>(Kd.R_ne HO_2.1 BK857.1 (by decide)) e_) e_)));replace HK:=zM (Kept.then_ (S:=(fun k_=>P0_ k_∨P2_ k_)) zB110 hkp (fun k_ hs_=>Or.elim hs_ (fun e_=>(fun e_=>(HO_0.1.1 k_ e_.symm).1) e_) (fun e_=>(fun e_=>(HO_2.1.1 k_ e_.symm).1) e_)));replace HO_0:=zM (Kd.R_reok rfl hy0 (fun k_ e_=>HO_0.1.1 k_ e_));replace HO_2:=zM (Kd.R_reok rfl hy1 (fun k_ e_=>HO_2.1.1 k_ e_));replace HB:=zM hb;clear hb hkp hy0 hy1;have p875:0≤(x9_1:Int):=zA;have q875:x9_1<(t874.length:Int):=(by have h_:(x9_1:Int)<((x2_1.length:Int):Int):=zA;have e_:=(Kd.R_reads' HO_2.1).1;omega);have ql875:((x9_1:Int)<((x2_1.length:Int):Int))=True:=eq_true zA;obtain ⟨ad875,e875,hx875_0⟩:=Kd.at_int (Kd.R_reads' HO_2.1).2.2 x9_1 p875 q875;obtain rfl:(⟨go67,0,none⟩:Addr)=ad875:=(by injection e875);(first|simp only [add_plain] at hx875_0|simp only [add_at] at hx875_0|simp only [Addr.add,Nat.zero_add] at hx875_0|skip);replace p875:=eq_true p875;replace q875:=eq_true q875;have p75:0≤(x9_1:Int):=zA;have q75:(x9_1:Int)<((x2_1.length:Int):Int):=zA;obtain ⟨hx75_0,hf75_0⟩:=Kd.R_celln 0 HO_2.1 (x9_1:Int) p75 q75;replace p75:=eq_true p75;replace q75:=eq_true q75;obtain ⟨hy82_,hz82_⟩:=Kd.R_celln 0 HO_2.1 (x9_1:Int) zA zA;have HP82:=Kd.R_putg HO_2.1 (x9_1:Int) (wrap64 ((rd t874 x9_1)-1)))|((with_reducible refine gate_store (t:=3) (p:=94) rfl ?_);refine store_event (t:=3) (p:=94) (v:=?vo_w83) (w1:=(w81.setCell ⟨go67,(x9_1:Int).toNat,none⟩ (.int .i64 (wrap64 ((rd t874 x9_1)-1))))) ?hg ?ho ?hn ?hr ?_;(case ho=>rfl);(case hg=>rfl);(case hn=>rfl);(case hr=>exact zHH);intro w83 hw;have hg:w81.grownBy w83 (some go67):=(by rw [hw];exact HP82.2);have hp_:Kd.R (Kd.int .i64) 3 w83 w0.heap.size (fun k_=>((P0_ k_∨P2_ k_)∨w.heap.size≤k_)∧some k_≠(.slice (some ad860) x0_1.length co78:Value).ownBlock) (.slice (some ⟨go67,0,none⟩) x2_1.length co16) y876:=(by rw [hw,Ny876.1];exact HP82.1);clear HP82;replace HO_0:=zM (Kd.R_after (v:=(.slice (some ⟨go67,0,none⟩) x2_1.length co16)) (v1:=(.slice (some ⟨go67,0,none⟩) x2_1.length co16)) (ok:=(fun k_=>((P0_ k_∨P2_ k_)∨w.heap.size≤k_))) (zR HO_0.1) hg (.inl rfl));replace BK857:=zM (zg BK857.1 hg (Kd.R_ne HO_2.1 BK857.1 (by decide)));replace HB:=zM ((by rw [hw];exact below_set (HB.1) GB67.1:Below w0.heap.size w0 w83));replace HK:=zM (Kept.of_grown (S:=(fun k_=>P0_ k_∨P2_ k_)) hg zB110 (fun k_ e_=>(HO_2.1.1 k_ e_).1));replace HO_2:=zM hp_;clear hg hw hp_;have hcz84:=zc_3 (w:=w83) BK857.1;have p76:0≤(((rd_T37 (rd_L7 l1 x9_1) (rd x2_1 x9_1)).f0):Int):=zA;have q76:(((rd_T37 (rd_L7 l1 x9_1) (rd x2_1 x9_1)).f0):Int)<((x0_1.length:Int):Int):=zA;obtain ⟨go76,co76,eo76,gb76,gl76,cl76,HG76⟩:=Kd.R_form HO_0.1 (by first|omega|(have hl_:=(Kd.R_reads' HO_0.1).1;omega));(first|cases eo76|(injection eo76 with ea_ en_ ec_;(first|subst ea_|(injection ea_ with ea_;subst ea_));subst ec_;clear en_));have GB76:=zM gb76;have GG76:=zM HG76;clear gb76 gl76 HG76;have HMgo76:=zM (show ((P0_ go76∨P2_ go76)∨w.heap.size≤go76) from (HO_0.1.1 _ rfl).1);(first|simp only [add_plain] at hx860_0|skip);obtain ⟨hx76_0,hf76_0⟩:=Kd.R_celln 0 HO_0.1 (((rd_T37 (rd_L7 l1 x9_1) (rd x2_1 x9_1)).f0):Int) p76 q76;replace p76:=eq_true p76;replace q76:=eq_true q76;obtain ⟨hy85_,hz85_⟩:=Kd.R_celln 0 HO_0.1 (((rd_T37 (rd_L7 l1 x9_1) (rd x2_1 x9_1)).f0):Int) zA zA;have HP85:=Kd.R_putg HO_0.1 (((rd_T37 (rd_L7 l1 x9_1) (rd x2_1 x9_1)).f0):Int) (rd x0_1 ((rd_T37 (rd_L7 l1 x9_1) (rd x2_1 x9_1)).f0)))|((with_reducible refine gate_store (t:=3) (p:=99) rfl ?_);refine store_event (t:=3) (p:=99) (v:=?vo_w86) (w1:=(w83.setCell ⟨go76,(((rd_T37 (rd_L7 l1 x9_1) (rd x2_1 x9_1)).f0):Int).toNat,none⟩ (.int .i64 (rd x0_1 ((rd_T37 (rd_L7 l1 x9_1) (rd x2_1 x9_1)).f0))))) ?hg ?ho ?hn ?hr ?_;(case ho=>rfl);(case hg=>rfl);(case hn=>rfl);(case hr=>exact zHH);intro w86 hw;have hg:w83.grownBy w86 (some go76):=(by rw [hw];exact HP85.2);have hp_:Kd.R (Kd.int .i64) 3 w86 w0.heap.size (fun k_=>((P0_ k_∨P2_ k_)∨w.heap.size≤k_)∧some k_≠(.slice (some ⟨go67,0,none⟩) x2_1.length co16:Value).ownBlock) (.slice (some ⟨go76,0,none⟩) x0_1.length co78) y877:=(by rw [hw,Ny877.1];exact HP85.1);clear HP85;replace HO_2:=zM (Kd.R_after (v:=(.slice (some ⟨go76,0,none⟩) x0_1.length co78)) (v1:=(.slice (some ⟨go76,0,none⟩) x0_1.length co78)) (ok:=(fun k_=>((P0_ k_∨P2_ k_)∨w.heap.size≤k_))) (zR HO_2.1) hg (.inl rfl));replace BK857:=zM (zg BK857.1 hg (Kd.R_ne HO_0.1 BK857.1 (by decide)));replace HB:=zM ((by rw [hw];exact below_set (HB.1) GB76.1:Below w0.heap.size w0 w86));replace HK:=zM (Kept.of_grown (S:=(fun k_=>P0_ k_∨P2_ k_)) hg zB110 (fun k_ e_=>(HO_0.1.1 k_ e_).1));replace HO_0:=zM hp_;clear hg hw hp_))
      go_roundg kj13
      case measure=>have:=HK1.1;have:=HJ13.1;omega
      case rel=>exact ⟨(y877),(y876),(wrap64 (x9_1+1)),zJJ,H',⟨by have:=HK1.1;have:=HJ13.1;omega⟩,⟨zR HO_0.1⟩,⟨zR HO_2.1⟩,⟨zB110⟩,⟨zB3⟩⟩
     rw [if_pos c37] at H
     have c37b0:=decide_eq_true c37
     clear c37
     generalize hy861:((x0_1.set (((rd_T37 (rd_L7 l1 x9_1) (rd x2_1 x9_1)).f0):Int).toNat ((rd_T37 (rd_L7 l1 x9_1) (rd x2_1 x9_1)).f2)):List Int)=y861 at H
     have Ny861:=zM hy861.symm
     clear hy861
     replace H:=zIt H
     obtain ⟨c39b0,H⟩:=H
     replace H:=zIt H
     obtain ⟨c40b0,H⟩:=H
     generalize hy863:((x2_1.set (x9_1:Int).toNat (wrap64 ((rd x2_1 x9_1)+1))):List Int)=y863 at H
     have Ny863:=zM hy863.symm
     clear hy863
     replace H:=zO H
     obtain ⟨⟨t864,t865,t866⟩,A42,H⟩:=H
     try dsimp only at H
     by_cases c43:t864=true
     ·subst c43
      rw [if_pos rfl] at H
      simp only [Option.some.injEq,Prod.mk.injEq] at H
      obtain ⟨rfl,rfl,rfl⟩:=H
      have hcz44:=zc_3 (w:=wc) BK857.1
      obtain ⟨Ao45,co45,eo45⟩:=Kd.R_slice HO_0.1
      subst eo45
      have p860:0≤(((rd_T37 (rd_L7 l1 x9_1) (rd x2_1 x9_1)).f0):Int):=zA
      have q860:((rd_T37 (rd_L7 l1 x9_1) (rd x2_1 x9_1)).f0)<(x0_1.length:Int):=zA
      (try (obtain ⟨Aoz_,coz_,eoz_⟩:=Kd.R_slice HO_0.1;subst eoz_))
      obtain ⟨ad860,e860,hx860_0⟩:=Kd.at_int (Kd.R_reads' HO_0.1).2.2 ((rd_T37 (rd_L7 l1 x9_1) (rd x2_1 x9_1)).f0) p860 q860
      cases e860
      replace p860:=eq_true p860
      replace q860:=eq_true q860
      have p38:0≤(((rd_T37 (rd_L7 l1 x9_1) (rd x2_1 x9_1)).f0):Int):=zA
      have q38:(((rd_T37 (rd_L7 l1 x9_1) (rd x2_1 x9_1)).f0):Int)<((x0_1.length:Int):Int):=zA
      obtain ⟨go38,co38,eo38,gb38,gl38,cl38,HG38⟩:=Kd.R_form HO_0.1 (by first|omega|(have hl_:=(Kd.R_reads' HO_0.1).1;omega))
      (first|cases eo38|(injection eo38 with ea_ en_ ec_;(first|subst ea_|(injection ea_ with ea_;subst ea_));subst ec_;clear en_))
      have GB38:=zM gb38
      have GG38:=zM HG38
      clear gb38 gl38 HG38
      have HMgo38:=zM (show ((P0_ go38∨P2_ go38)∨w.heap.size≤go38) from (HO_0.1.1 _ rfl).1)
      (first|simp only [add_plain] at hx860_0|skip)
      obtain ⟨hx38_0,hf38_0⟩:=Kd.R_celln 0 HO_0.1 (((rd_T37 (rd_L7 l1 x9_1) (rd x2_1 x9_1)).f0):Int) p38 q38
      replace p38:=eq_true p38
      replace q38:=eq_true q38
      have HP46:=Kd.R_putg HO_0.1 (((rd_T37 (rd_L7 l1 x9_1) (rd x2_1 x9_1)).f0):Int) ((rd_T37 (rd_L7 l1 x9_1) (rd x2_1 x9_1)).f2)
      go_wp2_with (first|((with_reducible refine gate_store (t:=3) (p:=72) rfl ?_);refine store_event (t:=3) (p:=72) (v:=?vo_w47) (w1:=(wc.setCell ⟨go38,(((rd_T37 (rd_L7 l1 x9_1) (rd x2_1 x9_1)).f0):Int).toNat,none⟩ (.int .i64 ((rd_T37 (rd_L7 l1 x9_1) (rd x2_1 x9_1)).f2)))) ?hg ?ho ?hn ?hr ?_;(case ho=>rfl);(case hg=>rfl);(case hn=>rfl);(case hr=>exact zHH);intro w47 hw;have hg:wc.grownBy w47 (some go38):=(by rw [hw];exact HP46.2);have hp_:Kd.R (Kd.int .i64) 3 w47 w0.heap.size (fun k_=>((P0_ k_∨P2_ k_)∨w.heap.size≤k_)∧some k_≠(.slice (some ad852) x2_1.length co16:Value).ownBlock) (.slice (some ⟨go38,0,none⟩) x0_1.length co45) y861:=(by rw [hw,Ny861.1];exact HP46.1);clear HP46;replace HO_2:=zM (Kd.R_after (v:=(.slice (some ⟨go38,0,none⟩) x0_1.length co45)) (v1:=(.slice (some ⟨go38,0,none⟩) x0_1.length co45)) (ok:=(fun k_=>((P0_ k_∨P2_ k_)∨w.heap.size≤k_))) (zR HO_2.1) hg (.inl rfl));replace BK857:=zM (zg BK857.1 hg (Kd.R_ne HO_0.1 BK857.1 (by decide)));replace HB:=zM ((by rw [hw];exact below_set (HB.1) GB38.1:Below w0.heap.size w0 w47));replace HK:=zM (Kept.of_grown (S:=(fun k_=>P0_ k_∨P2_ k_)) hg zB110 (fun k_ e_=>(HO_0.1.1 k_ e_).1));replace HO_0:=zM hp_;clear hg hw hp_;have p862:0≤(x9_1:Int):=zA;have q862:x9_1<(x2_1.length:Int):=zA;obtain ⟨ad862,e862,hx862_0⟩:=Kd.at_int (Kd.R_reads' HO_2.1).2.2 x9_1 p862 q862;obtain rfl:ad852=ad862:=(by injection e862);replace p862:=eq_true p862;replace q862:=eq_true q862;have p41:0≤(x9_1:Int):=zA;have q41:(x9_1:Int)<((x2_1.length:Int):Int):=zA;obtain ⟨go41,co41,eo41,gb41,gl41,cl41,HG41⟩:=Kd.R_form HO_2.1 (by first|omega|(have hl_:=(Kd.R_reads' HO_2.1).1;omega));(first|cases eo41|(injection eo41 with ea_ en_ ec_;(first|subst ea_|(injection ea_ with ea_;subst ea_));subst ec_;clear en_));have GB41:=zM gb41;have GG41:=zM HG41;clear gb41 gl41 HG41;have HMgo41:=zM (show ((P0_ go41∨P2_ go41)∨w.heap.size≤go41) from (HO_2.1.1 _ rfl).1);(first|simp only [add_plain] at hx852_0|skip);(first|simp only [add_plain] at hx855_0|skip);(first|simp only [add_plain] at hx862_0|skip);obtain ⟨hx41_0,hf41_0⟩:=Kd.R_celln 0 HO_2.1 (x9_1:Int) p41 q41;replace p41:=eq_true p41;replace q41:=eq_true q41;obtain ⟨hy48_,hz48_⟩:=Kd.R_celln 0 HO_2.1 (x9_1:Int) zA zA;have HP48:=Kd.R_putg HO_2.1 (x9_1:Int) (wrap64 ((rd x2_1 x9_1)+1)))|((with_reducible refine gate_store (t:=3) (p:=80) rfl ?_);refine store_event (t:=3) (p:=80) (v:=?vo_w49) (w1:=(w47.setCell ⟨go41,(x9_1:Int).toNat,none⟩ (.int .i64 (wrap64 ((rd x2_1 x9_1)+1))))) ?hg ?ho ?hn ?hr ?_;(case ho=>rfl);(case hg=>rfl);(case hn=>rfl);(case hr=>exact zHH);intro w49 hw;have hg:w47.grownBy w49 (some go41):=(by rw [hw];exact HP48.2);have hp_:Kd.R (Kd.int .i64) 3 w49 w0.heap.size (fun k_=>((P0_ k_∨P2_ k_)∨w.heap.size≤k_)∧some k_≠(.slice (some ⟨go38,0,none⟩) x0_1.length co45:Value).ownBlock) (.slice (some ⟨go41,0,none⟩) x2_1.length co16) y863:=(by rw [hw,Ny863.1];exact HP48.1);clear HP48;replace HO_0:=zM (Kd.R_after (v:=(.slice (some ⟨go41,0,none⟩) x2_1.length co16)) (v1:=(.slice (some ⟨go41,0,none⟩) x2_1.length co16)) (ok:=(fun k_=>((P0_ k_∨P2_ k_)∨w.heap.size≤k_))) (zR HO_0.1) hg (.inl rfl));replace BK857:=zM (zg BK857.1 hg (Kd.R_ne HO_2.1 BK857.1 (by decide)));replace HB:=zM ((by rw [hw];exact below_set (HB.1) GB41.1:Below w0.heap.size w0 w49));replace HK:=zM (Kept.of_grown (S:=(fun k_=>P0_ k_∨P2_ k_)) hg zB110 (fun k_ e_=>(HO_2.1.1 k_ e_).1));replace HO_2:=zM hp_;clear hg hw hp_)|((with_reducible refine zG Try.func49 86 #[.slice (some ⟨go38,0,none⟩) x0_1.length co45,.slice (some ad853) l1.length c1,.slice (some ⟨go41,0,none⟩) x2_1.length co16,.int .i64 (wrap64 (a3-1))] ?_);(with_reducible refine (ih kj13 (by have:=HK1.1;have:=HJ13.1;omega) (fun k_=>some k_=(.slice (some ⟨go38,0,none⟩) x0_1.length co45:Value).ownBlock) (.slice (some ⟨go38,0,none⟩) x0_1.length co45) y861 _ _ l1 (fun k_=>some k_=(.slice (some ⟨go41,0,none⟩) x2_1.length co16:Value).ownBlock) (.slice (some ⟨go41,0,none⟩) x2_1.length co16) y863 (wrap64 (a3-1)) true t865 t866 w0 _ ?side1 ?side2 ?side3 ?side4 ?side5 ?side6 ?side7 A42.1).mono ?_);(case side1=>exact zB3);(case side2=>exact Kd.R_tight rfl HO_0.1);(case side3=>exact fun k_ e_=>(HO_0.1.1 k_ e_.symm).2);(case side4=>exact Kd.C_kept_call HR1.1 zB110 (fun k_ hs_=>Or.elim hs_ (fun e_=>(fun e_=>(HO_0.1.1 k_ e_.symm).1) e_) (fun e_=>(fun e_=>(HO_2.1.1 k_ e_.symm).1) e_)));(case side5=>exact HC1.1);(case side6=>exact Kd.R_tight rfl HO_2.1);(case side7=>exact fun k_ e_=>(HO_2.1.1 k_ e_.symm).2);rintro e w50 ⟨rfl,hy0,hy1,hb,hkp⟩;refine ⟨_,rfl,?_⟩;replace BK857:=zM (blk_kept (zK BK857.1) hkp (fun hs_=>Or.elim hs_ (fun e_=>(fun e_=>(Kd.R_ne HO_0.1 BK857.1 (by decide)) e_) e_) (fun e_=>(fun e_=>(Kd.R_ne HO_2.1 BK857.1 (by decide)) e_) e_)));replace HK:=zM (Kept.then_ (S:=(fun k_=>P0_ k_∨P2_ k_)) zB110 hkp (fun k_ hs_=>Or.elim hs_ (fun e_=>(fun e_=>(HO_0.1.1 k_ e_.symm).1) e_) (fun e_=>(fun e_=>(HO_2.1.1 k_ e_.symm).1) e_)));replace HO_0:=zM (Kd.R_reok rfl hy0 (fun k_ e_=>HO_0.1.1 k_ e_));replace HO_2:=zM (Kd.R_reok rfl hy1 (fun k_ e_=>HO_2.1.1 k_ e_));replace HB:=zM hb;clear hb hkp hy0 hy1))
      go_ret
      exact ⟨zE,by refine zrR ?_;exact Kd.R_mono HO_0.1 (fun _ hk=>hk.1),by refine zrR ?_;exact Kd.R_mono HO_2.1 (fun _ hk=>hk.1),zB3,zB110⟩
     replace c43:=Bool.eq_false_iff.mpr c43
     subst c43
     rw [if_neg zF] at H
     generalize hy868:((t866.set (x9_1:Int).toNat (wrap64 ((rd t866 x9_1)-1))):List Int)=y868 at H
     have Ny868:=zM hy868.symm
     clear hy868
     generalize hy869:((t865.set (((rd_T37 (rd_L7 l1 x9_1) (rd x2_1 x9_1)).f0):Int).toNat (rd x0_1 ((rd_T37 (rd_L7 l1 x9_1) (rd x2_1 x9_1)).f0))):List Int)=y869 at H
     have Ny869:=zM hy869.symm
     clear hy869
     have H':=zM H
     clear H
     have hcz53:=zc_3 (w:=wc) BK857.1
     obtain ⟨Ao54,co54,eo54⟩:=Kd.R_slice HO_0.1
     subst eo54
     have p860:0≤(((rd_T37 (rd_L7 l1 x9_1) (rd x2_1 x9_1)).f0):Int):=zA
     have q860:((rd_T37 (rd_L7 l1 x9_1) (rd x2_1 x9_1)).f0)<(x0_1.length:Int):=zA
     (try (obtain ⟨Aoz_,coz_,eoz_⟩:=Kd.R_slice HO_0.1;subst eoz_))
     obtain ⟨ad860,e860,hx860_0⟩:=Kd.at_int (Kd.R_reads' HO_0.1).2.2 ((rd_T37 (rd_L7 l1 x9_1) (rd x2_1 x9_1)).f0) p860 q860
     cases e860
     replace p860:=eq_true p860
     replace q860:=eq_true q860
     have p38:0≤(((rd_T37 (rd_L7 l1 x9_1) (rd x2_1 x9_1)).f0):Int):=zA
     have q38:(((rd_T37 (rd_L7 l1 x9_1) (rd x2_1 x9_1)).f0):Int)<((x0_1.length:Int):Int):=zA
     obtain ⟨go38,co38,eo38,gb38,gl38,cl38,HG38⟩:=Kd.R_form HO_0.1 (by first|omega|(have hl_:=(Kd.R_reads' HO_0.1).1;omega))
     (first|cases eo38|(injection eo38 with ea_ en_ ec_;(first|subst ea_|(injection ea_ with ea_;subst ea_));subst ec_;clear en_))
     have GB38:=zM gb38
     have GG38:=zM HG38
     clear gb38 gl38 HG38
     have HMgo38:=zM (show ((P0_ go38∨P2_ go38)∨w.heap.size≤go38) from (HO_0.1.1 _ rfl).1)
     (first|simp only [add_plain] at hx860_0|skip)
     obtain ⟨hx38_0,hf38_0⟩:=Kd.R_celln 0 HO_0.1 (((rd_T37 (rd_L7 l1 x9_1) (rd x2_1 x9_1)).f0):Int) p38 q38
     replace p38:=eq_true p38
     replace q38:=eq_true q38
     have HP55:=Kd.R_putg HO_0.1 (((rd_T37 (rd_L7 l1 x9_1) (rd x2_1 x9_1)).f0):Int) ((rd_T37 (rd_L7 l1 x9_1) (rd x2_1 x9_1)).f2)
     go_wp2_with (first|((with_reducible refine gate_store (t:=3) (p:=72) rfl ?_);refine store_event (t:=3) (p:=72) (v:=?vo_w56) (w1:=(wc.setCell ⟨go38,(((rd_T37 (rd_L7 l1 x9_1) (rd x2_1 x9_1)).f0):Int).toNat,none⟩ (.int .i64 ((rd_T37 (rd_L7 l1 x9_1) (rd x2_1 x9_1)).f2)))) ?hg ?ho ?hn ?hr ?_;(case ho=>rfl);(case hg=>rfl);(case hn=>rfl);(case hr=>exact zHH);intro w56 hw;have hg:wc.grownBy w56 (some go38):=(by rw [hw];exact HP55.2);have hp_:Kd.R (Kd.int .i64) 3 w56 w0.heap.size (fun k_=>((P0_ k_∨P2_ k_)∨w.heap.size≤k_)∧some k_≠(.slice (some ad852) x2_1.length co16:Value).ownBlock) (.slice (some ⟨go38,0,none⟩) x0_1.length co54) y861:=(by rw [hw,Ny861.1];exact HP55.1);clear HP55;replace HO_2:=zM (Kd.R_after (v:=(.slice (some ⟨go38,0,none⟩) x0_1.length co54)) (v1:=(.slice (some ⟨go38,0,none⟩) x0_1.length co54)) (ok:=(fun k_=>((P0_ k_∨P2_ k_)∨w.heap.size≤k_))) (zR HO_2.1) hg (.inl rfl));replace BK857:=zM (zg BK857.1 hg (Kd.R_ne HO_0.1 BK857.1 (by decide)));replace HB:=zM ((by rw [hw];exact below_set (HB.1) GB38.1:Below w0.heap.size w0 w56));replace HK:=zM (Kept.of_grown (S:=(fun k_=>P0_ k_∨P2_ k_)) hg zB110 (fun k_ e_=>(HO_0.1.1 k_ e_).1));replace HO_0:=zM hp_;clear hg hw hp_;have p862:0≤(x9_1:Int):=zA;have q862:x9_1<(x2_1.length:Int):=zA;obtain ⟨ad862,e862,hx862_0⟩:=Kd.at_int (Kd.R_reads' HO_2.1).2.2 x9_1 p862 q862;obtain rfl:ad852=ad862:=(by injection e862);replace p862:=eq_true p862;replace q862:=eq_true q862;have p41:0≤(x9_1:Int):=zA;have q41:(x9_1:Int)<((x2_1.length:Int):Int):=zA;obtain ⟨go41,co41,eo41,gb41,gl41,cl41,HG41⟩:=Kd.R_form HO_2.1 (by first|omega|(have hl_:=(Kd.R_reads' HO_2.1).1;omega));(first|cases eo41|(injection eo41 with ea_ en_ ec_;(first|subst ea_|(injection ea_ with ea_;subst ea_));subst ec_;clear en_));have GB41:=zM gb41;have GG41:=zM HG41;clear gb41 gl41 HG41;have HMgo41:=zM (show ((P0_ go41∨P2_ go41)∨w.heap.size≤go41) from (HO_2.1.1 _ rfl).1);(first|simp only [add_plain] at hx862_0|skip);obtain ⟨hx41_0,hf41_0⟩:=Kd.R_celln 0 HO_2.1 (x9_1:Int) p41 q41;replace p41:=eq_true p41;replace q41:=eq_true q41;obtain ⟨hy57_,hz57_⟩:=Kd.R_celln 0 HO_2.1 (x9_1:Int) zA zA;have HP57:=Kd.R_putg HO_2.1 (x9_1:Int) (wrap64 ((rd x2_1 x9_1)+1)))|((with_reducible refine gate_store (t:=3) (p:=80) rfl ?_);refine store_event (t:=3) (p:=80) (v:=?vo_w58) (w1:=(w56.setCell ⟨go41,(x9_1:Int).toNat,none⟩ (.int .i64 (wrap64 ((rd x2_1 x9_1)+1))))) ?hg ?ho ?hn ?hr ?_;(case ho=>rfl);(case hg=>rfl);(case hn=>rfl);(case hr=>exact zHH);intro w58 hw;have hg:w56.grownBy w58 (some go41):=(by rw [hw];exact HP57.2);have hp_:Kd.R (Kd.int .i64) 3 w58 w0.heap.size (fun k_=>((P0_ k_∨P2_ k_)∨w.heap.size≤k_)∧some k_≠(.slice (some ⟨go38,0,none⟩) x0_1.length co54:Value).ownBlock) (.slice (some ⟨go41,0,none⟩) x2_1.length co16) y863:=(by rw [hw,Ny863.1];exact HP57.1);clear HP57;replace HO_0:=zM (Kd.R_after (v:=(.slice (some ⟨go41,0,none⟩) x2_1.length co16)) (v1:=(.slice (some ⟨go41,0,none⟩) x2_1.length co16)) (ok:=(fun k_=>((P0_ k_∨P2_ k_)∨w.heap.size≤k_))) (zR HO_0.1) hg (.inl rfl));replace BK857:=zM (zg BK857.1 hg (Kd.R_ne HO_2.1 BK857.1 (by decide)));replace HB:=zM ((by rw [hw];exact below_set (HB.1) GB41.1:Below w0.heap.size w0 w58));replace HK:=zM (Kept.of_grown (S:=(fun k_=>P0_ k_∨P2_ k_)) hg zB110 (fun k_ e_=>(HO_2.1.1 k_ e_).1));replace HO_2:=zM hp_;clear hg hw hp_)|((with_reducible refine zG Try.func49 86 #[.slice (some ⟨go38,0,none⟩) x0_1.length co54,.slice (some ad853) l1.length c1,.slice (some ⟨go41,0,none⟩) x2_1.length co16,.int .i64 (wrap64 (a3-1))] ?_);(with_reducible refine (ih kj13 (by have:=HK1.1;have:=HJ13.1;omega) (fun k_=>some k_=(.slice (some ⟨go38,0,none⟩) x0_1.length co54:Value).ownBlock) (.slice (some ⟨go38,0,none⟩) x0_1.length co54) y861 _ _ l1 (fun k_=>some k_=(.slice (some ⟨go41,0,none⟩) x2_1.length co16:Value).ownBlock) (.slice (some ⟨go41,0,none⟩) x2_1.length co16) y863 (wrap64 (a3-1)) false t865 t866 w0 _ ?side1 ?side2 ?side3 ?side4 ?side5 ?side6 ?side7 A42.1).mono ?_);(case side1=>exact zB3);(case side2=>exact Kd.R_tight rfl HO_0.1);(case side3=>exact fun k_ e_=>(HO_0.1.1 k_ e_.symm).2);(case side4=>exact Kd.C_kept_call HR1.1 zB110 (fun k_ hs_=>Or.elim hs_ (fun e_=>(fun e_=>(HO_0.1.1 k_ e_.symm).1) e_) (fun e_=>(fun e_=>(HO_2.1.1 k_ e_.symm).1) e_)));(case side5=>exact HC1.1);(case side6=>exact Kd.R_tight rfl HO_2.1);(case side7=>exact fun k_ e_=>(HO_2.1.1 k_ e_.symm).2);rintro e w59 ⟨rfl,hy0,hy1,hb,hkp⟩;refine ⟨_,rfl,?_⟩;replace BK857:=zM (blk_kept (zK BK857.1) hkp (fun hs_=>Or.elim hs_ (fun e_=>(fun e_=>(Kd.R_ne HO_0.1 BK857.1 (by decide)) e_) e_) (fun e_=>(fun e_=>(Kd.R_ne HO_2.1 BK857.1 (by decide)) e_) e_)));replace HK:=zM (Kept.then_ (S:=(fun k_=>P0_ k_∨P2_ k_)) zB110 hkp (fun k_ hs_=>Or.elim hs_ (fun e_=>(fun e_=>(HO_0.1.1 k_ e_.symm).1) e_) (fun e_=>(fun e_=>(HO_2.1.1 k_ e_.symm).1) e_)));replace HO_0:=zM (Kd.R_reok rfl hy0 (fun k_ e_=>HO_0.1.1 k_ e_));replace HO_2:=zM (Kd.R_reok rfl hy1 (fun k_ e_=>HO_2.1.1 k_ e_));replace HB:=zM hb;clear hb hkp hy0 hy1;have p867:0≤(x9_1:Int):=zA;have q867:x9_1<(t866.length:Int):=(by have h_:(x9_1:Int)<((x2_1.length:Int):Int):=zA;have e_:=(Kd.R_reads' HO_2.1).1;omega);have ql867:((x9_1:Int)<((x2_1.length:Int):Int))=True:=eq_true zA;obtain ⟨ad867,e867,hx867_0⟩:=Kd.at_int (Kd.R_reads' HO_2.1).2.2 x9_1 p867 q867;obtain rfl:(⟨go41,0,none⟩:Addr)=ad867:=(by injection e867);(first|simp only [add_plain] at hx867_0|simp only [add_at] at hx867_0|simp only [Addr.add,Nat.zero_add] at hx867_0|skip);replace p867:=eq_true p867;replace q867:=eq_true q867;have p51:0≤(x9_1:Int):=zA;have q51:(x9_1:Int)<((x2_1.length:Int):Int):=zA;obtain ⟨hx51_0,hf51_0⟩:=Kd.R_celln 0 HO_2.1 (x9_1:Int) p51 q51;replace p51:=eq_true p51;replace q51:=eq_true q51;obtain ⟨hy60_,hz60_⟩:=Kd.R_celln 0 HO_2.1 (x9_1:Int) zA zA;have HP60:=Kd.R_putg HO_2.1 (x9_1:Int) (wrap64 ((rd t866 x9_1)-1)))|((with_reducible refine gate_store (t:=3) (p:=94) rfl ?_);refine store_event (t:=3) (p:=94) (v:=?vo_w61) (w1:=(w59.setCell ⟨go41,(x9_1:Int).toNat,none⟩ (.int .i64 (wrap64 ((rd t866 x9_1)-1))))) ?hg ?ho ?hn ?hr ?_;(case ho=>rfl);(case hg=>rfl);(case hn=>rfl);(case hr=>exact zHH);intro w61 hw;have hg:w59.grownBy w61 (some go41):=(by rw [hw];exact HP60.2);have hp_:Kd.R (Kd.int .i64) 3 w61 w0.heap.size (fun k_=>((P0_ k_∨P2_ k_)∨w.heap.size≤k_)∧some k_≠(.slice (some ⟨go38,0,none⟩) x0_1.length co54:Value).ownBlock) (.slice (some ⟨go41,0,none⟩) x2_1.length co16) y868:=(by rw [hw,Ny868.1];exact HP60.1);clear HP60;replace HO_0:=zM (Kd.R_after (v:=(.slice (some ⟨go41,0,none⟩) x2_1.length co16)) (v1:=(.slice (some ⟨go41,0,none⟩) x2_1.length co16)) (ok:=(fun k_=>((P0_ k_∨P2_ k_)∨w.heap.size≤k_))) (zR HO_0.1) hg (.inl rfl));replace BK857:=zM (zg BK857.1 hg (Kd.R_ne HO_2.1 BK857.1 (by decide)));replace HB:=zM ((by rw [hw];exact below_set (HB.1) GB41.1:Below w0.heap.size w0 w61));replace HK:=zM (Kept.of_grown (S:=(fun k_=>P0_ k_∨P2_ k_)) hg zB110 (fun k_ e_=>(HO_2.1.1 k_ e_).1));replace HO_2:=zM hp_;clear hg hw hp_;have hcz62:=zc_3 (w:=w61) BK857.1;have p52:0≤(((rd_T37 (rd_L7 l1 x9_1) (rd x2_1 x9_1)).f0):Int):=zA;have q52:(((rd_T37 (rd_L7 l1 x9_1) (rd x2_1 x9_1)).f0):Int)<((x0_1.length:Int):Int):=zA;obtain ⟨hx52_0,hf52_0⟩:=Kd.R_celln 0 HO_0.1 (((rd_T37 (rd_L7 l1 x9_1) (rd x2_1 x9_1)).f0):Int) p52 q52;replace p52:=eq_true p52;replace q52:=eq_true q52;obtain ⟨hy63_,hz63_⟩:=Kd.R_celln 0 HO_0.1 (((rd_T37 (rd_L7 l1 x9_1) (rd x2_1 x9_1)).f0):Int) zA zA;have HP63:=Kd.R_putg HO_0.1 (((rd_T37 (rd_L7 l1 x9_1) (rd x2_1 x9_1)).f0):Int) (rd x0_1 ((rd_T37 (rd_L7 l1 x9_1) (rd x2_1 x9_1)).f0)))|((with_reducible refine gate_store (t:=3) (p:=99) rfl ?_);refine store_event (t:=3) (p:=99) (v:=?vo_w64) (w1:=(w61.setCell ⟨go38,(((rd_T37 (rd_L7 l1 x9_1) (rd x2_1 x9_1)).f0):Int).toNat,none⟩ (.int .i64 (rd x0_1 ((rd_T37 (rd_L7 l1 x9_1) (rd x2_1 x9_1)).f0))))) ?hg ?ho ?hn ?hr ?_;(case ho=>rfl);(case hg=>rfl);(case hn=>rfl);(case hr=>exact zHH);intro w64 hw;have hg:w61.grownBy w64 (some go38):=(by rw [hw];exact HP63.2);have hp_:Kd.R (Kd.int .i64) 3 w64 w0.heap.size (fun k_=>((P0_ k_∨P2_ k_)∨w.heap.size≤k_)∧some k_≠(.slice (some ⟨go41,0,none⟩) x2_1.length co16:Value).ownBlock) (.slice (some ⟨go38,0,none⟩) x0_1.length co54) y869:=(by rw [hw,Ny869.1];exact HP63.1);clear HP63;replace HO_2:=zM (Kd.R_after (v:=(.slice (some ⟨go38,0,none⟩) x0_1.length co54)) (v1:=(.slice (some ⟨go38,0,none⟩) x0_1.length co54)) (ok:=(fun k_=>((P0_ k_∨P2_ k_)∨w.heap.size≤k_))) (zR HO_2.1) hg (.inl rfl));replace BK857:=zM (zg BK857.1 hg (Kd.R_ne HO_0.1 BK857.1 (by decide)));replace HB:=zM ((by rw [hw];exact below_set (HB.1) GB38.1:Below w0.heap.size w0 w64));replace HK:=zM (Kept.of_grown (S:=(fun k_=>P0_ k_∨P2_ k_)) hg zB110 (fun k_ e_=>(HO_0.1.1 k_ e_).1));replace HO_0:=zM hp_;clear hg hw hp_))
     go_roundg kj13
     case measure=>have:=HK1.1;have:=HJ13.1;omega
     case rel=>exact ⟨(y869),(y868),(wrap64 (x9_1+1)),zJJ,H',⟨by have:=HK1.1;have:=HJ13.1;omega⟩,⟨zR HO_0.1⟩,⟨zR HO_2.1⟩,⟨zB110⟩,⟨zB3⟩⟩

end Go.Proofs.Ytaakcbgpmabaaaa.PFnSeen
