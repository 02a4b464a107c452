-- made by wip/tools/myprint.py out of the seat's translation
import Derived.Test.YtpcgecacaemalaaPFnStopsx0
import Derived.Test.YtpcgecacaemalaaPFnStopsx9
import Derived.Test.YtpcgecacaemalaaPFnStopsx10
import Derived.Test.YtpcgecacaemalaaPFnStopsx11
namespace Go.Proofs.Ytpcgecacaemalaa.PFnStops
open Go.RowKit Go.Proofs.YtpcgecacaemalaaW.PrintWords Go.Proofs.YtpcgecacaemalaaW.PrintLast Go.Proofs.YtpcgecacaemalaaW.PrintMore
attribute [local go_sem] max2_int min2_int max_two min_two max_three min_three max_four min_four -- for this text's walks alone
set_option linter.unusedVariables false
set_option linter.unusedSimpArgs false
set_option maxHeartbeats 8000000
set_option maxRecDepth 100000
abbrev zq12_0:Array Bool:=#[false,false,false,false,false,false,false,false,false,false]
abbrev zq12_7:Array Bool:=#[true,true,true,true,true,true,true,true,true,false]
abbrev zq12_8:Array Bool:=#[true,true,true,true,true,true,true,false,false,false]
abbrev zq12_9:Array Bool:=#[true,true,true,true,true,true,false,false,true,false]
abbrev zq12_13:Array Bool:=#[false,false,false,false,false,false,false,false,false,false,false,false,false]
abbrev zq12_26:Array Bool:=#[true,true,true,true,true,true,true,true,true,true,true,true,true]

/-! ### impl_eventOf: function 65 -/
def impl_eventOf.f (k:Nat) (l0:List Int) (l1_0:List Int) (a1_1:Int) (a1_2:Int) (a2:Int):Option (Int×Int×Int×Int×Int):=if 0≤a1_1 then (if a1_1<(l0.length:Int) then ((impl_Decode.f (rd l0 a1_1)).bind fun bt529=>((impl_Target.f bt529.1 bt529.2.1 bt529.2.2.1 bt529.2.2.2.1 bt529.2.2.2.2.1 l1_0).bind fun t536=>(if t536<0 then (some (a2,a1_1,t536,(-1),(-1))) else (if 0≤t536 then (if t536<(l0.length:Int) then ((impl_Work.f k l1_0 a1_1 a1_2 bt529.1 bt529.2.1 bt529.2.2.1 bt529.2.2.2.1 bt529.2.2.2.2.1 (rd l0 t536)).bind fun bt539=>(if bt529.1=5 then (some (a2,a1_1,t536,(-1),bt539.2.2.2)) else (some (a2,a1_1,t536,rd l0 t536,bt539.2.2.2)))) else (none)) else (none))))) else (none)) else (none)
theorem impl_eventOf.mono: ∀a0 a1 a2 a3 a4 k,LeO (impl_eventOf.f k a0 a1 a2 a3 a4) (impl_eventOf.f (k+1) a0 a1 a2 a3 a4):=by
 intro a0 a1 a2 a3 a4 k
 unfold impl_eventOf.f
 have mo0:=@impl_Work.mono
 exact zL
def impl_eventOf.T2:Bool×List (List Nat×List Nat):=(true,[([],[]),([],[]),([1],[1]),([],[]),([],[]),([4],[4]),([3,5],[3,5]),([0,2,6],[0,2,6]),([],[]),([8,7,6,0,1,2,3,4,5,6,7,8],[7,8])])
def impl_eventOf.B2:List Nat:=[0,0,2,0,0,16,56,127,0,511]
theorem impl_eventOf.tab2:rtab .any (opsOf Try.f65 2)=impl_eventOf.T2:=by kernel_rfl
theorem impl_eventOf.bits2:waitsOk impl_eventOf.T2.2 impl_eventOf.B2=true:=by kernel_rfl
def impl_eventOf.T5:Bool×List (List Nat×List Nat):=(true,[([],[]),([],[]),([],[]),([],[]),([3],[3]),([2,4],[2,4]),([5],[5]),([0,1,6],[0,1,6]),([7],[7]),([8],[8]),([8],[8]),([0,1,2,3,4,5,6,7,8,9,10],[]),([11,10,7,0,1,2,3,4,5,6,7,8,9,10],[10,11])])
def impl_eventOf.B5:List Nat:=[0,0,0,0,8,28,60,127,255,511,511,2047,4095]
theorem impl_eventOf.tab5:rtab .any (opsOf Try.f65 5)=impl_eventOf.T5:=by kernel_rfl
theorem impl_eventOf.bits5:waitsOk impl_eventOf.T5.2 impl_eventOf.B5=true:=by kernel_rfl
theorem impl_eventOf.calls (k:Nat) (A0:Option Addr) (c0:Nat) (l0:List Int) (A1_0:Option Addr) (c1_0:Nat) (l1_0:List Int) (a1_1:Int) (a1_2:Int) (a2:Int) (r1:Int) (r2:Int) (r3:Int) (r4:Int) (r5:Int) (w:World) (hr0:Kd.C (Kd.int .i64) w A0 l0.length l0) (hc0:l0.length≤c0) (hr1_0:Kd.C (Kd.int .i64) w A1_0 l1_0.length l1_0) (hc1_0:l1_0.length≤c1_0) (h:impl_eventOf.f k l0 l1_0 a1_1 a1_2 a2=some (r1,r2,r3,r4,r5)):
  Calls Try.prog 65 #[.slice A0 l0.length c0,.agg #[.slice A1_0 l1_0.length c1_0,.int .i64 a1_1,.int .i64 a1_2],.int .i64 a2] w fun e w'=>e= .returned (.agg #[.int .i64 r1,.int .i64 r2,.int .i64 r3,.int .i64 r4,.int .i64 r5])∧Below w.heap.size w w':=by
 have hu53:=Try.underlying53
 have hu57:=Try.underlying57
 have hu109:=Try.underlying109
 have HR0:=zM hr0
 have HC0:=zM hc0
 clear hr0 hc0
 have HR1_0:=zM hr1_0
 have HC1_0:=zM hc1_0
 clear hr1_0 hc1_0
 have HB:=zM (Below.refl w.heap.size w)
 unfold impl_eventOf.f at h
 have H:=h
 clear h
 replace H:=zIt H
 obtain ⟨c4b0,H⟩:=H
 replace H:=zIt H
 obtain ⟨c5b0,H⟩:=H
 replace H:=zO H
 obtain ⟨⟨t529,t530,t531,t532,t533,t534⟩,A6,H⟩:=H
 try dsimp only at H
 replace H:=zO H
 obtain ⟨t536,A7,H⟩:=H
 by_cases c8:t536<0
 ·rw [if_pos c8] at H
  have c8b0:=decide_eq_true c8
  clear c8
  simp only [Option.some.injEq,Prod.mk.injEq] at H
  obtain ⟨rfl,rfl,rfl,rfl,rfl⟩:=H
  go_enter Try.func65,Try.ntmps65
  try go_wp2_with (first|((with_reducible refine zBx 4 53 #[.slice A1_0 l1_0.length c1_0,.int .i64 a1_1,.int .i64 a1_2] ?_);intro gb526 hg w9 hbox hb;have BK526:=zM hbox;have GW526:=zM (zW hg (below_size zB0));have GE526:=zM (zW hg (below_size zB0));replace HB:=zM (below_step zB0 hb);clear hb hbox hg)|((with_reducible refine zBx 6 57 #[.int .i64 0,.int .i64 0,.int .i64 0,.int .i64 0,.int .i64 0] ?_);intro gb527 hg w10 hbox hb;have BK527:=zM hbox;have GW527:=zM (zW hg (below_size zB0));have GE527:=zM (zW hg (below_size zB0));replace HB:=zM (below_step zB0 hb);have NB526_527:=zM ((zn BK526.1 hg:gb526≠gb527));have NB527_526:=zM ((zm BK526.1 hg:gb527≠gb526));replace BK526:=zM (zb BK526.1 hb);clear hb hbox hg;have hnb11:=NB526_527.1;have hnc11:=NB527_526.1;have hcz12:=zc_3 (w:=w10) BK526.1;obtain ⟨p528,q528,ad528,e528,hx528_0⟩:=zRd (Kd.at_int HR0.1 a1_1);cases e528;replace hx528_0:=zHx HB.1 hx528_0)|((with_reducible refine zG Try.func101 16 #[.int .i64 (rd l0 a1_1)] ?_);(with_reducible refine (impl_Decode.calls (rd l0 a1_1) t529 t530 t531 t532 t533 t534 _ A6.1).mono ?_);rintro e w13 ⟨rfl,hb⟩;refine ⟨_,rfl,?_⟩;replace BK526:=zM (zb BK526.1 hb);replace BK527:=zM (zb BK527.1 hb);replace HB:=zM (below_step zB0 hb);clear hb)|((with_reducible refine zBx 7 109 #[.int .i64 0,.int .i64 0,.int .i64 0,.int .i64 0,.int .i64 0] ?_);intro gb535 hg w14 hbox hb;have BK535:=zM hbox;have GW535:=zM (zW hg (below_size zB0));have GE535:=zM (zW hg (below_size zB0));replace HB:=zM (below_step zB0 hb);have NB526_535:=zM ((zn BK526.1 hg:gb526≠gb535));have NB535_526:=zM ((zm BK526.1 hg:gb535≠gb526));replace BK526:=zM (zb BK526.1 hb);have NB527_535:=zM ((zn BK527.1 hg:gb527≠gb535));have NB535_527:=zM ((zm BK527.1 hg:gb535≠gb527));replace BK527:=zM (zb BK527.1 hb);clear hb hbox hg;have hnb15:=NB535_526.1;have hnc15:=NB526_535.1;have hnb16:=NB535_527.1;have hnc16:=NB527_535.1;have hcz17:=zc_5 (w:=w14) BK535.1))
  generalize hw_:(((((w14.setCell ⟨gb535,0,none⟩ (.int .i64 t529)).setCell ⟨gb535,1,none⟩ (.int .i64 t530)).setCell ⟨gb535,2,none⟩ (.int .i64 t531)).setCell ⟨gb535,3,none⟩ (.int .i64 t532)).setCell ⟨gb535,4,none⟩ (.int .i64 t533))=w18
  have n0_:Aside0 (w18.heap[gb526]? =some (.cells #[.slice A1_0 l1_0.length c1_0,.int .i64 a1_1,.int .i64 a1_2] 53 (0,0))):=⟨by rw [←hw_];exact zPq⟩
  have n1_:Aside0 (w18.heap[gb527]? =some (.cells #[.int .i64 0,.int .i64 0,.int .i64 0,.int .i64 0,.int .i64 0] 57 (0,0))):=⟨by rw [←hw_];exact zPq⟩
  have n2_:Aside0 (w18.heap[gb535]? =some (.cells #[.int .i64 t529,.int .i64 t530,.int .i64 t531,.int .i64 t532,.int .i64 t533] 109 (0,0))):=⟨by rw [←hw_];exact zp5 (zK BK535.1)⟩
  have n3_:Aside0 (Below w.heap.size w w18):=⟨by rw [←hw_];exact zB0⟩
  (try clear BK526)
  (try clear BK527)
  (try clear BK535)
  (try clear HB)
  clear hw_
  have BK526:=n0_
  have BK527:=n1_
  have BK535:=n2_
  have HB:=n3_
  clear n0_ n1_ n2_ n3_
  replace BK526:=zM (blk_drew BK526.1)
  replace BK527:=zM (blk_drew BK527.1)
  replace BK535:=zM (blk_drew BK535.1)
  replace HB:=zM (below_drew1 HB.1)
  refine start_ (n:=10) (S:=fun w'=>w'.cell? ⟨gb526,0,none⟩=some (.slice A1_0 l1_0.length c1_0)∧w'.cell? ⟨gb526,1,none⟩=some (.int .i64 a1_1)∧w'.cell? ⟨gb526,2,none⟩=some (.int .i64 a1_2)∧w'.cell? ⟨gb535,0,none⟩=some (.int .i64 t529)∧w'.cell? ⟨gb535,1,none⟩=some (.int .i64 t530)∧w'.cell? ⟨gb535,2,none⟩=some (.int .i64 t531)∧w'.cell? ⟨gb535,3,none⟩=some (.int .i64 t532)∧w'.cell? ⟨gb535,4,none⟩=some (.int .i64 t533)) (ds:=[]) zq12_0 (by kernel_rfl) rfl rfl ⟨(blk_cell BK526.1 0).trans rfl,(blk_cell BK526.1 1).trans rfl,(blk_cell BK526.1 2).trans rfl,(blk_cell BK535.1 0).trans rfl,(blk_cell BK535.1 1).trans rfl,(blk_cell BK535.1 2).trans rfl,(blk_cell BK535.1 3).trans rfl,(blk_cell BK535.1 4).trans rfl⟩ (fun hHeld=>?_);refine with_tabW impl_eventOf.tab2 impl_eventOf.bits2 (fun HT_ HW_=>?_)
  generalize w18.drew=w19 at BK526 BK527 BK535 HB hHeld ⊢
  refine zPu 0 ?_
  refine zPu 1 ?_
  refine zPu 4 ?_
  refine zTk8 2 hHeld ?_
  refine zTk8 3 hHeld ?_
  refine zTk8 5 hHeld ?_
  refine join_ (σ:=Nat) 1 zq12_7 (fun s_=>[(25,.int .i64 t536),(9,.pointer (some ⟨s_,0,none⟩)),(26,.agg #[.int .i64 a2,.int .i64 a1_1,.int .i64 t536,.int .i64 (-1),.int .i64 (-1)])]) (fun s_ w'=>(w'.cell? ⟨gb526,0,none⟩=some (.slice A1_0 l1_0.length c1_0)∧w'.cell? ⟨gb526,1,none⟩=some (.int .i64 a1_1)∧w'.cell? ⟨gb526,2,none⟩=some (.int .i64 a1_2)∧w'.cell? ⟨gb535,0,none⟩=some (.int .i64 t529)∧w'.cell? ⟨gb535,1,none⟩=some (.int .i64 t530)∧w'.cell? ⟨gb535,2,none⟩=some (.int .i64 t531)∧w'.cell? ⟨gb535,3,none⟩=some (.int .i64 t532)∧w'.cell? ⟨gb535,4,none⟩=some (.int .i64 t533))∧(w'.heap[gb526]? =some (.cells #[.slice A1_0 l1_0.length c1_0,.int .i64 a1_1,.int .i64 a1_2] 53 (0,0)))∧(w'.heap[gb527]? =some (.cells #[.int .i64 0,.int .i64 0,.int .i64 0,.int .i64 0,.int .i64 0] 57 (0,0)))∧(w'.heap[gb535]? =some (.cells #[.int .i64 t529,.int .i64 t530,.int .i64 t531,.int .i64 t532,.int .i64 t533] 109 (0,0)))∧(w'.heap[s_]? =some (.cells #[.int .i64 0,.int .i64 0,.int .i64 0,.int .i64 0,.int .i64 0] 57 (0,0)))∧(w.heap.size≤s_)∧(w.heap.size≤s_)∧(gb526≠s_)∧(s_≠gb526)∧(gb527≠s_)∧(s_≠gb527)∧(gb535≠s_)∧(s_≠gb535)∧(Below w.heap.size w w')) ?_ ?_
  rotate_left
  ·intro hCont
   refine two_ (i:=6) (j:=8) (Ni:=some 25) (Nj:=some 9) zq12_8 zq12_9 rfl rfl rfl rfl (two_of HT_.1 (by kernel_rfl)) (by decide) (by decide) (fun K hK=>?_) (fun K hK=>?_)
   ·refine zGs Try.func102 #[.agg #[.int .i64 t529,.int .i64 t530,.int .i64 t531,.int .i64 t532,.int .i64 t533],.slice A1_0 l1_0.length c1_0] ?_
    with_reducible refine (impl_Target.calls t529 t530 t531 t532 t533 _ _ l1_0 t536 _ ?side1 ?side2 A7.1).mono ?_
    (case side1=>exact zC (Kd.C_below HR1_0.1 HB.1))
    (case side2=>exact HC1_0.1)
    rintro e w20 ⟨rfl,hb⟩
    refine ⟨_,rfl,?_⟩
    replace BK526:=zM (zb BK526.1 hb)
    replace BK527:=zM (zb BK527.1 hb)
    replace BK535:=zM (zb BK535.1 hb)
    replace HB:=zM (below_step zB0 hb)
    refine hK.out _ _ zCs fun hHeld=>?_
    clear hK K
    refine zNo ?_
    refine zPu 7 ?_
    refine zOn 8 (some 9) fun K hK=>?_
    refine zBs 9 57 #[.int .i64 0,.int .i64 0,.int .i64 0,.int .i64 0,.int .i64 0] ?_
    intro gb537 hg w21 hbox hb
    replace BK537:=zM hbox
    replace GW537:=zM (zW hg (below_size zB0))
    replace GE537:=zM (zW hg (below_size zB0))
    replace HB:=zM (below_step zB0 hb)
    replace NB526_537:=zM ((zn BK526.1 hg:gb526≠gb537))
    replace NB537_526:=zM ((zm BK526.1 hg:gb537≠gb526))
    replace BK526:=zM (zb BK526.1 hb)
    replace NB527_537:=zM ((zn BK527.1 hg:gb527≠gb537))
    replace NB537_527:=zM ((zm BK527.1 hg:gb537≠gb527))
    replace BK527:=zM (zb BK527.1 hb)
    replace NB535_537:=zM ((zn BK535.1 hg:gb535≠gb537))
    replace NB537_535:=zM ((zm BK535.1 hg:gb537≠gb535))
    replace BK535:=zM (zb BK535.1 hb)
    refine hK.out _ _ zCs fun hHeld=>?_
    clear hK K
    refine zNo ?_
    exact norm_ zNr (hCont (gb537) _ ⟨hHeld,(zK BK526.1),(zK BK527.1),(zK BK535.1),(zK BK537.1),GW537.1,GE537.1,NB526_537.1,NB537_526.1,NB527_537.1,NB537_527.1,NB535_537.1,NB537_535.1,zB0⟩)
   ·refine zBs 9 57 #[.int .i64 0,.int .i64 0,.int .i64 0,.int .i64 0,.int .i64 0] ?_
    intro gb537 hg w20 hbox hb
    replace BK537:=zM hbox
    replace GW537:=zM (zW hg (below_size zB0))
    replace GE537:=zM (zW hg (below_size zB0))
    replace HB:=zM (below_step zB0 hb)
    replace NB526_537:=zM ((zn BK526.1 hg:gb526≠gb537))
    replace NB537_526:=zM ((zm BK526.1 hg:gb537≠gb526))
    replace BK526:=zM (zb BK526.1 hb)
    replace NB527_537:=zM ((zn BK527.1 hg:gb527≠gb537))
    replace NB537_527:=zM ((zm BK527.1 hg:gb537≠gb527))
    replace BK527:=zM (zb BK527.1 hb)
    replace NB535_537:=zM ((zn BK535.1 hg:gb535≠gb537))
    replace NB537_535:=zM ((zm BK535.1 hg:gb537≠gb535))
    replace BK535:=zM (zb BK535.1 hb)
    refine hK.out _ _ zCs fun hHeld=>?_
    clear hK K
    refine zNo ?_
    refine zOn 6 (some 25) fun K hK=>?_
    refine zGs Try.func102 #[.agg #[.int .i64 t529,.int .i64 t530,.int .i64 t531,.int .i64 t532,.int .i64 t533],.slice A1_0 l1_0.length c1_0] ?_
    with_reducible refine (impl_Target.calls t529 t530 t531 t532 t533 _ _ l1_0 t536 _ ?side1 ?side2 A7.1).mono ?_
    (case side1=>exact zC (Kd.C_below HR1_0.1 HB.1))
    (case side2=>exact HC1_0.1)
    rintro e w21 ⟨rfl,hb⟩
    refine ⟨_,rfl,?_⟩
    replace BK526:=zM (zb BK526.1 hb)
    replace BK527:=zM (zb BK527.1 hb)
    replace BK535:=zM (zb BK535.1 hb)
    replace BK537:=zM (zb BK537.1 hb)
    replace HB:=zM (below_step zB0 hb)
    refine hK.out _ _ zCs fun hHeld=>?_
    clear hK K
    refine zNo ?_
    refine zPu 7 ?_
    exact norm_ zNr (hCont (gb537) _ ⟨hHeld,(zK BK526.1),(zK BK527.1),(zK BK535.1),(zK BK537.1),GW537.1,GE537.1,NB526_537.1,NB537_526.1,NB527_537.1,NB537_527.1,NB535_537.1,NB537_535.1,zB0⟩)
  rintro gb537 w22 ⟨hS_,h0_,h1_,h2_,h3_,h4_,h5_,h6_,h7_,h8_,h9_,h10_,h11_,h12_⟩
  replace BK526:=zM h0_
  replace BK527:=zM h1_
  replace BK535:=zM h2_
  replace BK537:=zM h3_
  replace GW537:=zM h4_
  replace GE537:=zM h5_
  replace NB526_537:=zM h6_
  replace NB537_526:=zM h7_
  replace NB527_537:=zM h8_
  replace NB537_527:=zM h9_
  replace NB535_537:=zM h10_
  replace NB537_535:=zM h11_
  replace HB:=zM h12_
  have hHeld:=hS_
  refine zNp ?_
  refine zOn 9 none fun K hK=>?_
  obtain ⟨hs23,hfs23⟩:=zHs BK537.1 0
  have hns23_0:=NB526_537.1
  have hns23_1:=NB527_537.1
  have hns23_2:=NB535_537.1
  have hms23_0:=NB537_526.1
  have hms23_1:=NB537_527.1
  have hms23_2:=NB537_535.1
  obtain ⟨hs24,hfs24⟩:=zHs BK537.1 1
  have hns24_0:=NB526_537.1
  have hns24_1:=NB527_537.1
  have hns24_2:=NB535_537.1
  have hms24_0:=NB537_526.1
  have hms24_1:=NB537_527.1
  have hms24_2:=NB537_535.1
  obtain ⟨hs25,hfs25⟩:=zHs BK537.1 2
  have hns25_0:=NB526_537.1
  have hns25_1:=NB527_537.1
  have hns25_2:=NB535_537.1
  have hms25_0:=NB537_526.1
  have hms25_1:=NB537_527.1
  have hms25_2:=NB537_535.1
  obtain ⟨hs26,hfs26⟩:=zHs BK537.1 3
  have hns26_0:=NB526_537.1
  have hns26_1:=NB527_537.1
  have hns26_2:=NB535_537.1
  have hms26_0:=NB537_526.1
  have hms26_1:=NB537_527.1
  have hms26_2:=NB537_535.1
  obtain ⟨hs27,hfs27⟩:=zHs BK537.1 4
  have hns27_0:=NB526_537.1
  have hns27_1:=NB527_537.1
  have hns27_2:=NB535_537.1
  have hms27_0:=NB537_526.1
  have hms27_1:=NB537_527.1
  have hms27_2:=NB537_535.1
  refine skip_ (w1:=?_) (by rfl) rfl ?_ ?_
  rotate_left
  ·go_simp
   rfl
  refine hK.out _ _ zCs fun hHeld=>?_
  clear hK K
  refine done_ (done_of HT_.1 (by kernel_rfl)) ?_
  have hnb28:=NB537_526.1
  have hnc28:=NB526_537.1
  have hnb29:=NB537_527.1
  have hnc29:=NB527_537.1
  have hnb30:=NB537_535.1
  have hnc30:=NB535_537.1
  have hcz31:=zc_5 (w:=w22) BK537.1
  have hcz32:=zc_5 (w:=w22) BK527.1
  try go_wp2
  refine bodyPost_ret (results_cell_row rfl _ _ gb527 57 #[.int .i64 a2,.int .i64 a1_1,.int .i64 t536,.int .i64 (-1),.int .i64 (-1)] (0,0) _ rfl zPq Try.underlying57 rfl (by kernel_rfl)) rfl ?_
  exact ⟨zE,zB0⟩
 rw [if_neg c8] at H
 have c8b0:=decide_eq_false c8
 clear c8
 replace H:=zIt H
 obtain ⟨c33b0,H⟩:=H
 replace H:=zIt H
 obtain ⟨c34b0,H⟩:=H
 replace H:=zO H
 obtain ⟨⟨t539,t542,t543,t544⟩,A35,H⟩:=H
 try dsimp only at H
 by_cases c36:t529=5
 ·rw [if_pos c36] at H
  have c36b0:(t529 == 5)=true:=beq_iff_eq.mpr c36
  have c36b1:(t529 != 5)=false:=bne_eq_false_iff_eq.mpr c36
  clear c36
  simp only [Option.some.injEq,Prod.mk.injEq] at H
  obtain ⟨rfl,rfl,rfl,rfl,rfl⟩:=H
  go_enter Try.func65,Try.ntmps65
  try go_wp2_with (first|((with_reducible refine zBx 4 53 #[.slice A1_0 l1_0.length c1_0,.int .i64 a1_1,.int .i64 a1_2] ?_);intro gb526 hg w37 hbox hb;have BK526:=zM hbox;have GW526:=zM (zW hg (below_size zB0));have GE526:=zM (zW hg (below_size zB0));replace HB:=zM (below_step zB0 hb);clear hb hbox hg)|((with_reducible refine zBx 6 57 #[.int .i64 0,.int .i64 0,.int .i64 0,.int .i64 0,.int .i64 0] ?_);intro gb527 hg w38 hbox hb;have BK527:=zM hbox;have GW527:=zM (zW hg (below_size zB0));have GE527:=zM (zW hg (below_size zB0));replace HB:=zM (below_step zB0 hb);have NB526_527:=zM ((zn BK526.1 hg:gb526≠gb527));have NB527_526:=zM ((zm BK526.1 hg:gb527≠gb526));replace BK526:=zM (zb BK526.1 hb);clear hb hbox hg;have hnb39:=NB526_527.1;have hnc39:=NB527_526.1;have hcz40:=zc_3 (w:=w38) BK526.1;obtain ⟨p528,q528,ad528,e528,hx528_0⟩:=zRd (Kd.at_int HR0.1 a1_1);cases e528;replace hx528_0:=zHx HB.1 hx528_0)|((with_reducible refine zG Try.func101 16 #[.int .i64 (rd l0 a1_1)] ?_);(with_reducible refine (impl_Decode.calls (rd l0 a1_1) t529 t530 t531 t532 t533 t534 _ A6.1).mono ?_);rintro e w41 ⟨rfl,hb⟩;refine ⟨_,rfl,?_⟩;replace BK526:=zM (zb BK526.1 hb);replace BK527:=zM (zb BK527.1 hb);replace HB:=zM (below_step zB0 hb);clear hb)|((with_reducible refine zBx 7 109 #[.int .i64 0,.int .i64 0,.int .i64 0,.int .i64 0,.int .i64 0] ?_);intro gb535 hg w42 hbox hb;have BK535:=zM hbox;have GW535:=zM (zW hg (below_size zB0));have GE535:=zM (zW hg (below_size zB0));replace HB:=zM (below_step zB0 hb);have NB526_535:=zM ((zn BK526.1 hg:gb526≠gb535));have NB535_526:=zM ((zm BK526.1 hg:gb535≠gb526));replace BK526:=zM (zb BK526.1 hb);have NB527_535:=zM ((zn BK527.1 hg:gb527≠gb535));have NB535_527:=zM ((zm BK527.1 hg:gb535≠gb527));replace BK527:=zM (zb BK527.1 hb);clear hb hbox hg;have hnb43:=NB535_526.1;have hnc43:=NB526_535.1;have hnb44:=NB535_527.1;have hnc44:=NB527_535.1;have hcz45:=zc_5 (w:=w42) BK535.1))
  generalize hw_:(((((w42.setCell ⟨gb535,0,none⟩ (.int .i64 t529)).setCell ⟨gb535,1,none⟩ (.int .i64 t530)).setCell ⟨gb535,2,none⟩ (.int .i64 t531)).setCell ⟨gb535,3,none⟩ (.int .i64 t532)).setCell ⟨gb535,4,none⟩ (.int .i64 t533))=w46
  have n0_:Aside0 (w46.heap[gb526]? =some (.cells #[.slice A1_0 l1_0.length c1_0,.int .i64 a1_1,.int .i64 a1_2] 53 (0,0))):=⟨by rw [←hw_];exact zPq⟩
  have n1_:Aside0 (w46.heap[gb527]? =some (.cells #[.int .i64 0,.int .i64 0,.int .i64 0,.int .i64 0,.int .i64 0] 57 (0,0))):=⟨by rw [←hw_];exact zPq⟩
  have n2_:Aside0 (w46.heap[gb535]? =some (.cells #[.int .i64 t529,.int .i64 t530,.int .i64 t531,.int .i64 t532,.int .i64 t533] 109 (0,0))):=⟨by rw [←hw_];exact zp5 (zK BK535.1)⟩
  have n3_:Aside0 (Below w.heap.size w w46):=⟨by rw [←hw_];exact zB0⟩
  (try clear BK526)
  (try clear BK527)
  (try clear BK535)
  (try clear HB)
  clear hw_
  have BK526:=n0_
  have BK527:=n1_
  have BK535:=n2_
  have HB:=n3_
  clear n0_ n1_ n2_ n3_
  replace BK526:=zM (blk_drew BK526.1)
  replace BK527:=zM (blk_drew BK527.1)
  replace BK535:=zM (blk_drew BK535.1)
  replace HB:=zM (below_drew1 HB.1)
  refine start_ (n:=10) (S:=fun w'=>w'.cell? ⟨gb526,0,none⟩=some (.slice A1_0 l1_0.length c1_0)∧w'.cell? ⟨gb526,1,none⟩=some (.int .i64 a1_1)∧w'.cell? ⟨gb526,2,none⟩=some (.int .i64 a1_2)∧w'.cell? ⟨gb535,0,none⟩=some (.int .i64 t529)∧w'.cell? ⟨gb535,1,none⟩=some (.int .i64 t530)∧w'.cell? ⟨gb535,2,none⟩=some (.int .i64 t531)∧w'.cell? ⟨gb535,3,none⟩=some (.int .i64 t532)∧w'.cell? ⟨gb535,4,none⟩=some (.int .i64 t533)) (ds:=[]) zq12_0 (by kernel_rfl) rfl rfl ⟨(blk_cell BK526.1 0).trans rfl,(blk_cell BK526.1 1).trans rfl,(blk_cell BK526.1 2).trans rfl,(blk_cell BK535.1 0).trans rfl,(blk_cell BK535.1 1).trans rfl,(blk_cell BK535.1 2).trans rfl,(blk_cell BK535.1 3).trans rfl,(blk_cell BK535.1 4).trans rfl⟩ (fun hHeld=>?_);refine with_tabW impl_eventOf.tab2 impl_eventOf.bits2 (fun HT_ HW_=>?_)
  generalize w46.drew=w47 at BK526 BK527 BK535 HB hHeld ⊢
  refine zPu 0 ?_
  refine zPu 1 ?_
  refine zPu 4 ?_
  refine zTk8 2 hHeld ?_
  refine zTk8 3 hHeld ?_
  refine zTk8 5 hHeld ?_
  refine join_ (σ:=Nat) 1 zq12_7 (fun s_=>[(25,.int .i64 t536),(9,.pointer (some ⟨s_,0,none⟩)),(26,.agg #[.int .i64 a2,.int .i64 a1_1,.int .i64 t536,.int .i64 (-1),.int .i64 (-1)])]) (fun s_ w'=>(w'.cell? ⟨gb526,0,none⟩=some (.slice A1_0 l1_0.length c1_0)∧w'.cell? ⟨gb526,1,none⟩=some (.int .i64 a1_1)∧w'.cell? ⟨gb526,2,none⟩=some (.int .i64 a1_2)∧w'.cell? ⟨gb535,0,none⟩=some (.int .i64 t529)∧w'.cell? ⟨gb535,1,none⟩=some (.int .i64 t530)∧w'.cell? ⟨gb535,2,none⟩=some (.int .i64 t531)∧w'.cell? ⟨gb535,3,none⟩=some (.int .i64 t532)∧w'.cell? ⟨gb535,4,none⟩=some (.int .i64 t533))∧(w'.heap[gb526]? =some (.cells #[.slice A1_0 l1_0.length c1_0,.int .i64 a1_1,.int .i64 a1_2] 53 (0,0)))∧(w'.heap[gb527]? =some (.cells #[.int .i64 0,.int .i64 0,.int .i64 0,.int .i64 0,.int .i64 0] 57 (0,0)))∧(w'.heap[gb535]? =some (.cells #[.int .i64 t529,.int .i64 t530,.int .i64 t531,.int .i64 t532,.int .i64 t533] 109 (0,0)))∧(w'.heap[s_]? =some (.cells #[.int .i64 0,.int .i64 0,.int .i64 0,.int .i64 0,.int .i64 0] 57 (0,0)))∧(w.heap.size≤s_)∧(w.heap.size≤s_)∧(gb526≠s_)∧(s_≠gb526)∧(gb527≠s_)∧(s_≠gb527)∧(gb535≠s_)∧(s_≠gb535)∧(Below w.heap.size w w')) ?_ ?_
  rotate_left
  ·intro hCont
   refine two_ (i:=6) (j:=8) (Ni:=some 25) (Nj:=some 9) zq12_8 zq12_9 rfl rfl rfl rfl (two_of HT_.1 (by kernel_rfl)) (by decide) (by decide) (fun K hK=>?_) (fun K hK=>?_)
   ·refine zGs Try.func102 #[.agg #[.int .i64 t529,.int .i64 t530,.int .i64 t531,.int .i64 t532,.int .i64 t533],.slice A1_0 l1_0.length c1_0] ?_
    with_reducible refine (impl_Target.calls t529 t530 t531 t532 t533 _ _ l1_0 t536 _ ?side1 ?side2 A7.1).mono ?_
    (case side1=>exact zC (Kd.C_below HR1_0.1 HB.1))
    (case side2=>exact HC1_0.1)
    rintro e w48 ⟨rfl,hb⟩
    refine ⟨_,rfl,?_⟩
    replace BK526:=zM (zb BK526.1 hb)
    replace BK527:=zM (zb BK527.1 hb)
    replace BK535:=zM (zb BK535.1 hb)
    replace HB:=zM (below_step zB0 hb)
    refine hK.out _ _ zCs fun hHeld=>?_
    clear hK K
    refine zNo ?_
    refine zPu 7 ?_
    refine zOn 8 (some 9) fun K hK=>?_
    refine zBs 9 57 #[.int .i64 0,.int .i64 0,.int .i64 0,.int .i64 0,.int .i64 0] ?_
    intro gb537 hg w49 hbox hb
    replace BK537:=zM hbox
    replace GW537:=zM (zW hg (below_size zB0))
    replace GE537:=zM (zW hg (below_size zB0))
    replace HB:=zM (below_step zB0 hb)
    replace NB526_537:=zM ((zn BK526.1 hg:gb526≠gb537))
    replace NB537_526:=zM ((zm BK526.1 hg:gb537≠gb526))
    replace BK526:=zM (zb BK526.1 hb)
    replace NB527_537:=zM ((zn BK527.1 hg:gb527≠gb537))
    replace NB537_527:=zM ((zm BK527.1 hg:gb537≠gb527))
    replace BK527:=zM (zb BK527.1 hb)
    replace NB535_537:=zM ((zn BK535.1 hg:gb535≠gb537))
    replace NB537_535:=zM ((zm BK535.1 hg:gb537≠gb535))
    replace BK535:=zM (zb BK535.1 hb)
    refine hK.out _ _ zCs fun hHeld=>?_
    clear hK K
    refine zNo ?_
    exact norm_ zNr (hCont (gb537) _ ⟨hHeld,(zK BK526.1),(zK BK527.1),(zK BK535.1),(zK BK537.1),GW537.1,GE537.1,NB526_537.1,NB537_526.1,NB527_537.1,NB537_527.1,NB535_537.1,NB537_535.1,zB0⟩)
   ·refine zBs 9 57 #[.int .i64 0,.int .i64 0,.int .i64 0,.int .i64 0,.int .i64 0] ?_
    intro gb537 hg w48 hbox hb
    replace BK537:=zM hbox
    replace GW537:=zM (zW hg (below_size zB0))
    replace GE537:=zM (zW hg (below_size zB0))
    replace HB:=zM (below_step zB0 hb)
    replace NB526_537:=zM ((zn BK526.1 hg:gb526≠gb537))
    replace NB537_526:=zM ((zm BK526.1 hg:gb537≠gb526))
    replace BK526:=zM (zb BK526.1 hb)
    replace NB527_537:=zM ((zn BK527.1 hg:gb527≠gb537))
    replace NB537_527:=zM ((zm BK527.1 hg:gb537≠gb527))
    replace BK527:=zM (zb BK527.1 hb)
    replace NB535_537:=zM ((zn BK535.1 hg:gb535≠gb537))
    replace NB537_535:=zM ((zm BK535.1 hg:gb537≠gb535))
    replace BK535:=zM (zb BK535.1 hb)
    refine hK.out _ _ zCs fun hHeld=>?_
    clear hK K
    refine zNo ?_
    refine zOn 6 (some 25) fun K hK=>?_
    refine zGs Try.func102 #[.agg #[.int .i64 t529,.int .i64 t530,.int .i64 t531,.int .i64 t532,.int .i64 t533],.slice A1_0 l1_0.length c1_0] ?_
    with_reducible refine (impl_Target.calls t529 t530 t531 t532 t533 _ _ l1_0 t536 _ ?side1 ?side2 A7.1).mono ?_
    (case side1=>exact zC (Kd.C_below HR1_0.1 HB.1))
    (case side2=>exact HC1_0.1)
    rintro e w49 ⟨rfl,hb⟩
    refine ⟨_,rfl,?_⟩
    replace BK526:=zM (zb BK526.1 hb)
    replace BK527:=zM (zb BK527.1 hb)
    replace BK535:=zM (zb BK535.1 hb)
    replace BK537:=zM (zb BK537.1 hb)
    replace HB:=zM (below_step zB0 hb)
    refine hK.out _ _ zCs fun hHeld=>?_
    clear hK K
    refine zNo ?_
    refine zPu 7 ?_
    exact norm_ zNr (hCont (gb537) _ ⟨hHeld,(zK BK526.1),(zK BK527.1),(zK BK535.1),(zK BK537.1),GW537.1,GE537.1,NB526_537.1,NB537_526.1,NB527_537.1,NB537_527.1,NB535_537.1,NB537_535.1,zB0⟩)
  rintro gb537 w50 ⟨hS_,h0_,h1_,h2_,h3_,h4_,h5_,h6_,h7_,h8_,h9_,h10_,h11_,h12_⟩
  replace BK526:=zM h0_
  replace BK527:=zM h1_
  replace BK535:=zM h2_
  replace BK537:=zM h3_
  replace GW537:=zM h4_
  replace GE537:=zM h5_
  replace NB526_537:=zM h6_
  replace NB537_526:=zM h7_
  replace NB527_537:=zM h8_
  replace NB537_527:=zM h9_
  replace NB535_537:=zM h10_
  replace NB537_535:=zM h11_
  replace HB:=zM h12_
  have hHeld:=hS_
  refine zNp ?_
  refine zOn 9 none fun K hK=>?_
  obtain ⟨hs51,hfs51⟩:=zHs BK537.1 0
  have hns51_0:=NB526_537.1
  have hns51_1:=NB527_537.1
  have hns51_2:=NB535_537.1
  have hms51_0:=NB537_526.1
  have hms51_1:=NB537_527.1
  have hms51_2:=NB537_535.1
  obtain ⟨hs52,hfs52⟩:=zHs BK537.1 1
  have hns52_0:=NB526_537.1
  have hns52_1:=NB527_537.1
  have hns52_2:=NB535_537.1
  have hms52_0:=NB537_526.1
  have hms52_1:=NB537_527.1
  have hms52_2:=NB537_535.1
  obtain ⟨hs53,hfs53⟩:=zHs BK537.1 2
  have hns53_0:=NB526_537.1
  have hns53_1:=NB527_537.1
  have hns53_2:=NB535_537.1
  have hms53_0:=NB537_526.1
  have hms53_1:=NB537_527.1
  have hms53_2:=NB537_535.1
  obtain ⟨hs54,hfs54⟩:=zHs BK537.1 3
  have hns54_0:=NB526_537.1
  have hns54_1:=NB527_537.1
  have hns54_2:=NB535_537.1
  have hms54_0:=NB537_526.1
  have hms54_1:=NB537_527.1
  have hms54_2:=NB537_535.1
  obtain ⟨hs55,hfs55⟩:=zHs BK537.1 4
  have hns55_0:=NB526_537.1
  have hns55_1:=NB527_537.1
  have hns55_2:=NB535_537.1
  have hms55_0:=NB537_526.1
  have hms55_1:=NB537_527.1
  have hms55_2:=NB537_535.1
  refine skip_ (w1:=?_) (by rfl) rfl ?_ ?_
  rotate_left
  ·go_simp
   rfl
  refine hK.out _ _ zCs fun hHeld=>?_
  clear hK K
  refine done_ (done_of HT_.1 (by kernel_rfl)) ?_
  have hnb56:=NB537_526.1
  have hnc56:=NB526_537.1
  have hnb57:=NB537_527.1
  have hnc57:=NB527_537.1
  have hnb58:=NB537_535.1
  have hnc58:=NB535_537.1
  have hcz59:=zc_5 (w:=w50) BK537.1
  try go_wp2
  generalize hw_:(((((w50.setCell ⟨gb537,0,none⟩ (.int .i64 a2)).setCell ⟨gb537,1,none⟩ (.int .i64 a1_1)).setCell ⟨gb537,2,none⟩ (.int .i64 t536)).setCell ⟨gb537,3,none⟩ (.int .i64 (-1))).setCell ⟨gb537,4,none⟩ (.int .i64 (-1)))=w60
  have n0_:Aside0 (w60.heap[gb526]? =some (.cells #[.slice A1_0 l1_0.length c1_0,.int .i64 a1_1,.int .i64 a1_2] 53 (0,0))):=⟨by rw [←hw_];exact zPq⟩
  have n1_:Aside0 (w60.heap[gb527]? =some (.cells #[.int .i64 0,.int .i64 0,.int .i64 0,.int .i64 0,.int .i64 0] 57 (0,0))):=⟨by rw [←hw_];exact zPq⟩
  have n2_:Aside0 (w60.heap[gb535]? =some (.cells #[.int .i64 t529,.int .i64 t530,.int .i64 t531,.int .i64 t532,.int .i64 t533] 109 (0,0))):=⟨by rw [←hw_];exact zPq⟩
  have n3_:Aside0 (w60.heap[gb537]? =some (.cells #[.int .i64 a2,.int .i64 a1_1,.int .i64 t536,.int .i64 (-1),.int .i64 (-1)] 57 (0,0))):=⟨by rw [←hw_];exact zp5 (zK BK537.1)⟩
  have n4_:Aside0 (Below w.heap.size w w60):=⟨by rw [←hw_];exact zB0⟩
  (try clear BK526)
  (try clear BK527)
  (try clear BK535)
  (try clear BK537)
  (try clear HB)
  clear hw_
  have BK526:=n0_
  have BK527:=n1_
  have BK535:=n2_
  have BK537:=n3_
  have HB:=n4_
  clear n0_ n1_ n2_ n3_ n4_
  replace BK526:=zM (blk_drew BK526.1)
  replace BK527:=zM (blk_drew BK527.1)
  replace BK535:=zM (blk_drew BK535.1)
  replace BK537:=zM (blk_drew BK537.1)
  replace HB:=zM (below_drew1 HB.1)
  obtain ⟨p538,q538,ad538,e538,hx538_0⟩:=zRd (Kd.at_int HR0.1 t536)
  have hw538_0:=hx538_0
  obtain rfl:ad528=ad538:=(by injection e538)
  replace hx538_0:=zHx HB.1 hx538_0
  refine start_ (n:=13) (S:=fun w'=>w'.cell? ⟨gb526,0,none⟩=some (.slice A1_0 l1_0.length c1_0)∧w'.cell? ⟨gb526,1,none⟩=some (.int .i64 a1_1)∧w'.cell? ⟨gb526,2,none⟩=some (.int .i64 a1_2)∧w'.cell? ⟨gb535,0,none⟩=some (.int .i64 t529)∧w'.cell? ⟨gb535,1,none⟩=some (.int .i64 t530)∧w'.cell? ⟨gb535,2,none⟩=some (.int .i64 t531)∧w'.cell? ⟨gb535,3,none⟩=some (.int .i64 t532)∧w'.cell? ⟨gb535,4,none⟩=some (.int .i64 t533)∧w'.cell? ⟨gb537,0,none⟩=some (.int .i64 a2)∧w'.cell? ⟨gb537,1,none⟩=some (.int .i64 a1_1)∧w'.cell? ⟨gb537,2,none⟩=some (.int .i64 t536)∧w'.cell? ⟨gb537,3,none⟩=some (.int .i64 (-1))∧w'.cell? ⟨gb537,4,none⟩=some (.int .i64 (-1))∧w'.cell? (ad528.add (t536).toNat)=some (.int .i64 (rd l0 t536))) (ds:=[12]) zq12_13 (by kernel_rfl) rfl rfl ⟨(blk_cell BK526.1 0).trans rfl,(blk_cell BK526.1 1).trans rfl,(blk_cell BK526.1 2).trans rfl,(blk_cell BK535.1 0).trans rfl,(blk_cell BK535.1 1).trans rfl,(blk_cell BK535.1 2).trans rfl,(blk_cell BK535.1 3).trans rfl,(blk_cell BK535.1 4).trans rfl,(blk_cell BK537.1 0).trans rfl,(blk_cell BK537.1 1).trans rfl,(blk_cell BK537.1 2).trans rfl,(blk_cell BK537.1 3).trans rfl,(blk_cell BK537.1 4).trans rfl,((HB.1.cell (World.block_lt_of_cell? w _ hw538_0)).trans hw538_0)⟩ (fun hHeld=>?_);refine with_tabW impl_eventOf.tab5 impl_eventOf.bits5 (fun HT_ HW_=>?_)
  generalize w60.drew=w61 at BK526 BK527 BK535 BK537 HB hx538_0 hHeld ⊢
  refine zPu 2 ?_
  refine zPu 3 ?_
  refine zTk14 0 hHeld ?_
  refine zTk14 1 hHeld ?_
  refine zTk14 4 hHeld ?_
  refine zPu 5 ?_
  refine zTk14 6 hHeld ?_
  refine zOn 7 (some 39) fun K hK=>?_
  refine zGs Try.func103 #[.agg #[.slice A1_0 l1_0.length c1_0,.int .i64 a1_1,.int .i64 a1_2],.agg #[.int .i64 t529,.int .i64 t530,.int .i64 t531,.int .i64 t532,.int .i64 t533],.int .i64 (rd l0 t536)] ?_
  with_reducible refine (impl_Work.calls k _ _ l1_0 a1_1 a1_2 t529 t530 t531 t532 t533 (rd l0 t536) t539 t542 t543 t544 _ ?side1 ?side2 A35.1).mono ?_
  (case side1=>exact zC (Kd.C_below HR1_0.1 HB.1))
  (case side2=>exact HC1_0.1)
  rintro e w62 ⟨v540,rfl,ho0,hb⟩
  refine ⟨_,rfl,?_⟩
  have HO541:=zM (Kd.R_lower ho0 (below_size zB0))
  replace BK526:=zM (zb BK526.1 hb)
  replace BK527:=zM (zb BK527.1 hb)
  replace BK535:=zM (zb BK535.1 hb)
  replace BK537:=zM (zb BK537.1 hb)
  replace HB:=zM (below_step zB0 hb)
  (try clear ho0)
  refine hK.out _ _ ⟨(blk_cell BK526.1 0).trans rfl,(blk_cell BK526.1 1).trans rfl,(blk_cell BK526.1 2).trans rfl,(blk_cell BK535.1 0).trans rfl,(blk_cell BK535.1 1).trans rfl,(blk_cell BK535.1 2).trans rfl,(blk_cell BK535.1 3).trans rfl,(blk_cell BK535.1 4).trans rfl,(blk_cell BK537.1 0).trans rfl,(blk_cell BK537.1 1).trans rfl,(blk_cell BK537.1 2).trans rfl,(blk_cell BK537.1 3).trans rfl,(blk_cell BK537.1 4).trans rfl,((HB.1.cell (World.block_lt_of_cell? w _ hw538_0)).trans hw538_0)⟩ (fun hHeld=>?_)
  clear hK K
  refine zNo ?_
  refine zPu 8 ?_
  refine zPu 9 ?_
  refine zPu 10 ?_
  refine zPu 11 ?_
  refine last_ (i:=12) (N:=none) zq12_26 rfl rfl (one_of HT_.1 (by kernel_rfl)) (by decide) (fun K hK=>?_)
  obtain ⟨hs63,hfs63⟩:=zHs BK537.1 4
  have hns63_0:=NB526_537.1
  have hns63_1:=NB527_537.1
  have hns63_2:=NB535_537.1
  have hms63_0:=NB537_526.1
  have hms63_1:=NB537_527.1
  have hms63_2:=NB537_535.1
  refine skip_ (w1:=?_) (by rfl) rfl ?_ ?_
  rotate_left
  ·go_simp
   rfl
  refine hK.out _ _ ?_
  clear hK K
  refine done_ (done_of HT_.1 (by kernel_rfl)) ?_
  have hcz64:=zc_5 (w:=w62) BK535.1
  have hcz65:=zc_5 (w:=w62) BK537.1
  have hcz66:=zc_5 (w:=w62) BK527.1
  try go_wp2
  refine bodyPost_ret (results_cell_row rfl _ _ gb527 57 #[.int .i64 a2,.int .i64 a1_1,.int .i64 t536,.int .i64 (-1),.int .i64 t544] (0,0) _ rfl zPq Try.underlying57 rfl (by kernel_rfl)) rfl ?_
  exact ⟨zE,zB0⟩
 rw [if_neg c36] at H
 have c36b0:(t529 == 5)=false:=beq_eq_false_iff_ne.mpr c36
 have c36b1:(t529 != 5)=true:=bne_iff_ne.mpr c36
 simp only [Option.some.injEq,Prod.mk.injEq] at H
 obtain ⟨rfl,rfl,rfl,rfl,rfl⟩:=H
 go_enter Try.func65,Try.ntmps65
 try go_wp2_with (first|((with_reducible refine zBx 4 53 #[.slice A1_0 l1_0.length c1_0,.int .i64 a1_1,.int .i64 a1_2] ?_);intro gb526 hg w67 hbox hb;have BK526:=zM hbox;have GW526:=zM (zW hg (below_size zB0));have GE526:=zM (zW hg (below_size zB0));replace HB:=zM (below_step zB0 hb);clear hb hbox hg)|((with_reducible refine zBx 6 57 #[.int .i64 0,.int .i64 0,.int .i64 0,.int .i64 0,.int .i64 0] ?_);intro gb527 hg w68 hbox hb;have BK527:=zM hbox;have GW527:=zM (zW hg (below_size zB0));have GE527:=zM (zW hg (below_size zB0));replace HB:=zM (below_step zB0 hb);have NB526_527:=zM ((zn BK526.1 hg:gb526≠gb527));have NB527_526:=zM ((zm BK526.1 hg:gb527≠gb526));replace BK526:=zM (zb BK526.1 hb);clear hb hbox hg;have hnb69:=NB526_527.1;have hnc69:=NB527_526.1;have hcz70:=zc_3 (w:=w68) BK526.1;obtain ⟨p528,q528,ad528,e528,hx528_0⟩:=zRd (Kd.at_int HR0.1 a1_1);cases e528;replace hx528_0:=zHx HB.1 hx528_0)|((with_reducible refine zG Try.func101 16 #[.int .i64 (rd l0 a1_1)] ?_);(with_reducible refine (impl_Decode.calls (rd l0 a1_1) t529 t530 t531 t532 t533 t534 _ A6.1).mono ?_);rintro e w71 ⟨rfl,hb⟩;refine ⟨_,rfl,?_⟩;replace BK526:=zM (zb BK526.1 hb);replace BK527:=zM (zb BK527.1 hb);replace HB:=zM (below_step zB0 hb);clear hb)|((with_reducible refine zBx 7 109 #[.int .i64 0,.int .i64 0,.int .i64 0,.int .i64 0,.int .i64 0] ?_);intro gb535 hg w72 hbox hb;have BK535:=zM hbox;have GW535:=zM (zW hg (below_size zB0));have GE535:=zM (zW hg (below_size zB0));replace HB:=zM (below_step zB0 hb);have NB526_535:=zM ((zn BK526.1 hg:gb526≠gb535));have NB535_526:=zM ((zm BK526.1 hg:gb535≠gb526));replace BK526:=zM (zb BK526.1 hb);have NB527_535:=zM ((zn BK527.1 hg:gb527≠gb535));have NB535_527:=zM ((zm BK527.1 hg:gb535≠gb527));replace BK527:=zM (zb BK527.1 hb);clear hb hbox hg;have hnb73:=NB535_526.1;have hnc73:=NB526_535.1;have hnb74:=NB535_527.1;have hnc74:=NB527_535.1;have hcz75:=zc_5 (w:=w72) BK535.1))
 generalize hw_:(((((w72.setCell ⟨gb535,0,none⟩ (.int .i64 t529)).setCell ⟨gb535,1,none⟩ (.int .i64 t530)).setCell ⟨gb535,2,none⟩ (.int .i64 t531)).setCell ⟨gb535,3,none⟩ (.int .i64 t532)).setCell ⟨gb535,4,none⟩ (.int .i64 t533))=w76
 have n0_:Aside0 (w76.heap[gb526]? =some (.cells #[.slice A1_0 l1_0.length c1_0,.int .i64 a1_1,.int .i64 a1_2] 53 (0,0))):=⟨by rw [←hw_];exact zPq⟩
 have n1_:Aside0 (w76.heap[gb527]? =some (.cells #[.int .i64 0,.int .i64 0,.int .i64 0,.int .i64 0,.int .i64 0] 57 (0,0))):=⟨by rw [←hw_];exact zPq⟩
 have n2_:Aside0 (w76.heap[gb535]? =some (.cells #[.int .i64 t529,.int .i64 t530,.int .i64 t531,.int .i64 t532,.int .i64 t533] 109 (0,0))):=⟨by rw [←hw_];exact zp5 (zK BK535.1)⟩
 have n3_:Aside0 (Below w.heap.size w w76):=⟨by rw [←hw_];exact zB0⟩
 (try clear BK526)
 (try clear BK527)
 (try clear BK535)
 (try clear HB)
 clear hw_
 have BK526:=n0_
 have BK527:=n1_
 have BK535:=n2_
 have HB:=n3_
 clear n0_ n1_ n2_ n3_
 replace BK526:=zM (blk_drew BK526.1)
 replace BK527:=zM (blk_drew BK527.1)
 replace BK535:=zM (blk_drew BK535.1)
 replace HB:=zM (below_drew1 HB.1)
 refine start_ (n:=10) (S:=fun w'=>w'.cell? ⟨gb526,0,none⟩=some (.slice A1_0 l1_0.length c1_0)∧w'.cell? ⟨gb526,1,none⟩=some (.int .i64 a1_1)∧w'.cell? ⟨gb526,2,none⟩=some (.int .i64 a1_2)∧w'.cell? ⟨gb535,0,none⟩=some (.int .i64 t529)∧w'.cell? ⟨gb535,1,none⟩=some (.int .i64 t530)∧w'.cell? ⟨gb535,2,none⟩=some (.int .i64 t531)∧w'.cell? ⟨gb535,3,none⟩=some (.int .i64 t532)∧w'.cell? ⟨gb535,4,none⟩=some (.int .i64 t533)) (ds:=[]) zq12_0 (by kernel_rfl) rfl rfl ⟨(blk_cell BK526.1 0).trans rfl,(blk_cell BK526.1 1).trans rfl,(blk_cell BK526.1 2).trans rfl,(blk_cell BK535.1 0).trans rfl,(blk_cell BK535.1 1).trans rfl,(blk_cell BK535.1 2).trans rfl,(blk_cell BK535.1 3).trans rfl,(blk_cell BK535.1 4).trans rfl⟩ (fun hHeld=>?_);refine with_tabW impl_eventOf.tab2 impl_eventOf.bits2 (fun HT_ HW_=>?_)
 generalize w76.drew=w77 at BK526 BK527 BK535 HB hHeld ⊢
 refine zPu 0 ?_
 refine zPu 1 ?_
 refine zPu 4 ?_
 refine zTk8 2 hHeld ?_
 refine zTk8 3 hHeld ?_
 refine zTk8 5 hHeld ?_
 refine join_ (σ:=Nat) 1 zq12_7 (fun s_=>[(25,.int .i64 t536),(9,.pointer (some ⟨s_,0,none⟩)),(26,.agg #[.int .i64 a2,.int .i64 a1_1,.int .i64 t536,.int .i64 (-1),.int .i64 (-1)])]) (fun s_ w'=>(w'.cell? ⟨gb526,0,none⟩=some (.slice A1_0 l1_0.length c1_0)∧w'.cell? ⟨gb526,1,none⟩=some (.int .i64 a1_1)∧w'.cell? ⟨gb526,2,none⟩=some (.int .i64 a1_2)∧w'.cell? ⟨gb535,0,none⟩=some (.int .i64 t529)∧w'.cell? ⟨gb535,1,none⟩=some (.int .i64 t530)∧w'.cell? ⟨gb535,2,none⟩=some (.int .i64 t531)∧w'.cell? ⟨gb535,3,none⟩=some (.int .i64 t532)∧w'.cell? ⟨gb535,4,none⟩=some (.int .i64 t533))∧(w'.heap[gb526]? =some (.cells #[.slice A1_0 l1_0.length c1_0,.int .i64 a1_1,.int .i64 a1_2] 53 (0,0)))∧(w'.heap[gb527]? =some (.cells #[.int .i64 0,.int .i64 0,.int .i64 0,.int .i64 0,.int .i64 0] 57 (0,0)))∧(w'.heap[gb535]? =some (.cells #[.int .i64 t529,.int .i64 t530,.int .i64 t531,.int .i64 t532,.int .i64 t533] 109 (0,0)))∧(w'.heap[s_]? =some (.cells #[.int .i64 0,.int .i64 0,.int .i64 0,.int .i64 0,.int .i64 0] 57 (0,0)))∧(w.heap.size≤s_)∧(w.heap.size≤s_)∧(gb526≠s_)∧(s_≠gb526)∧(gb527≠s_)∧(s_≠gb527)∧(gb535≠s_)∧(s_≠gb535)∧(Below w.heap.size w w')) ?_ ?_
 rotate_left
 ·intro hCont
  refine two_ (i:=6) (j:=8) (Ni:=some 25) (Nj:=some 9) zq12_8 zq12_9 rfl rfl rfl rfl (two_of HT_.1 (by kernel_rfl)) (by decide) (by decide) (fun K hK=>?_) (fun K hK=>?_)
  ·refine zGs Try.func102 #[.agg #[.int .i64 t529,.int .i64 t530,.int .i64 t531,.int .i64 t532,.int .i64 t533],.slice A1_0 l1_0.length c1_0] ?_
   with_reducible refine (impl_Target.calls t529 t530 t531 t532 t533 _ _ l1_0 t536 _ ?side1 ?side2 A7.1).mono ?_
   (case side1=>exact zC (Kd.C_below HR1_0.1 HB.1))
   (case side2=>exact HC1_0.1)
   rintro e w78 ⟨rfl,hb⟩
   refine ⟨_,rfl,?_⟩
   replace BK526:=zM (zb BK526.1 hb)
   replace BK527:=zM (zb BK527.1 hb)
   replace BK535:=zM (zb BK535.1 hb)
   replace HB:=zM (below_step zB0 hb)
   refine hK.out _ _ zCs fun hHeld=>?_
   clear hK K
   refine zNo ?_
   refine zPu 7 ?_
   refine zOn 8 (some 9) fun K hK=>?_
   refine zBs 9 57 #[.int .i64 0,.int .i64 0,.int .i64 0,.int .i64 0,.int .i64 0] ?_
   intro gb537 hg w79 hbox hb
   replace BK537:=zM hbox
   replace GW537:=zM (zW hg (below_size zB0))
   replace GE537:=zM (zW hg (below_size zB0))
   replace HB:=zM (below_step zB0 hb)
   replace NB526_537:=zM ((zn BK526.1 hg:gb526≠gb537))
   replace NB537_526:=zM ((zm BK526.1 hg:gb537≠gb526))
   replace BK526:=zM (zb BK526.1 hb)
   replace NB527_537:=zM ((zn BK527.1 hg:gb527≠gb537))
   replace NB537_527:=zM ((zm BK527.1 hg:gb537≠gb527))
   replace BK527:=zM (zb BK527.1 hb)
   replace NB535_537:=zM ((zn BK535.1 hg:gb535≠gb537))
   replace NB537_535:=zM ((zm BK535.1 hg:gb537≠gb535))
   replace BK535:=zM (zb BK535.1 hb)
   refine hK.out _ _ zCs fun hHeld=>?_
   clear hK K
   refine zNo ?_
   exact norm_ zNr (hCont (gb537) _ ⟨hHeld,(zK BK526.1),(zK BK527.1),(zK BK535.1),(zK BK537.1),GW537.1,GE537.1,NB526_537.1,NB537_526.1,NB527_537.1,NB537_527.1,NB535_537.1,NB537_535.1,zB0⟩)
  ·refine zBs 9 57 #[.int .i64 0,.int .i64 0,.int .i64 0,.int .i64 0,.int .i64 0] ?_
   intro gb537 hg w78 hbox hb
   replace BK537:=zM hbox
   replace GW537:=zM (zW hg (below_size zB0))
   replace GE537:=zM (zW hg (below_size zB0))
   replace HB:=zM (below_step zB0 hb)
   replace NB526_537:=zM ((zn BK526.1 hg:gb526≠gb537))
   replace NB537_526:=zM ((zm BK526.1 hg:gb537≠gb526))
   replace BK526:=zM (zb BK526.1 hb)
   replace NB527_537:=zM ((zn BK527.1 hg:gb527≠gb537))
   replace NB537_527:=zM ((zm BK527.1 hg:gb537≠gb527))
   replace BK527:=zM (zb BK527.1 hb)
   replace NB535_537:=zM ((zn BK535.1 hg:gb535≠gb537))
   replace NB537_535:=zM ((zm BK535.1 hg:gb537≠gb535))
   replace BK535:=zM (zb BK535.1 hb)
   refine hK.out _ _ zCs fun hHeld=>?_
   clear hK K
   refine zNo ?_
   refine zOn 6 (some 25) fun K hK=>?_
   refine zGs Try.func102 #[.agg #[.int .i64 t529,.int .i64 t530,.int .i64 t531,.int .i64 t532,.int .i64 t533],.slice A1_0 l1_0.length c1_0] ?_
   with_reducible refine (impl_Target.calls t529 t530 t531 t532 t533 _ _ l1_0 t536 _ ?side1 ?side2 A7.1).mono ?_
   (case side1=>exact zC (Kd.C_below HR1_0.1 HB.1))
   (case side2=>exact HC1_0.1)
   rintro e w79 ⟨rfl,hb⟩
   refine ⟨_,rfl,?_⟩
   replace BK526:=zM (zb BK526.1 hb)
   replace BK527:=zM (zb BK527.1 hb)
   replace BK535:=zM (zb BK535.1 hb)
   replace BK537:=zM (zb BK537.1 hb)
   replace HB:=zM (below_step zB0 hb)
   refine hK.out _ _ zCs fun hHeld=>?_
   clear hK K
   refine zNo ?_
   refine zPu 7 ?_
   exact norm_ zNr (hCont (gb537) _ ⟨hHeld,(zK BK526.1),(zK BK527.1),(zK BK535.1),(zK BK537.1),GW537.1,GE537.1,NB526_537.1,NB537_526.1,NB527_537.1,NB537_527.1,NB535_537.1,NB537_535.1,zB0⟩)
 rintro gb537 w80 ⟨hS_,h0_,h1_,h2_,h3_,h4_,h5_,h6_,h7_,h8_,h9_,h10_,h11_,h12_⟩
 replace BK526:=zM h0_
 replace BK527:=zM h1_
 replace BK535:=zM h2_
 replace BK537:=zM h3_
 replace GW537:=zM h4_
 replace GE537:=zM h5_
 replace NB526_537:=zM h6_
 replace NB537_526:=zM h7_
 replace NB527_537:=zM h8_
 replace NB537_527:=zM h9_
 replace NB535_537:=zM h10_
 replace NB537_535:=zM h11_
 replace HB:=zM h12_
 have hHeld:=hS_
 refine zNp ?_
 refine zOn 9 none fun K hK=>?_
 obtain ⟨hs81,hfs81⟩:=zHs BK537.1 0
 have hns81_0:=NB526_537.1
 have hns81_1:=NB527_537.1
 have hns81_2:=NB535_537.1
 have hms81_0:=NB537_526.1
 have hms81_1:=NB537_527.1
 have hms81_2:=NB537_535.1
 obtain ⟨hs82,hfs82⟩:=zHs BK537.1 1
 have hns82_0:=NB526_537.1
 have hns82_1:=NB527_537.1
 have hns82_2:=NB535_537.1
 have hms82_0:=NB537_526.1
 have hms82_1:=NB537_527.1
 have hms82_2:=NB537_535.1
 obtain ⟨hs83,hfs83⟩:=zHs BK537.1 2
 have hns83_0:=NB526_537.1
 have hns83_1:=NB527_537.1
 have hns83_2:=NB535_537.1
 have hms83_0:=NB537_526.1
 have hms83_1:=NB537_527.1
 have hms83_2:=NB537_535.1
 obtain ⟨hs84,hfs84⟩:=zHs BK537.1 3
 have hns84_0:=NB526_537.1
 have hns84_1:=NB527_537.1
 have hns84_2:=NB535_537.1
 have hms84_0:=NB537_526.1
 have hms84_1:=NB537_527.1
 have hms84_2:=NB537_535.1
 obtain ⟨hs85,hfs85⟩:=zHs BK537.1 4
 have hns85_0:=NB526_537.1
 have hns85_1:=NB527_537.1
 have hns85_2:=NB535_537.1
 have hms85_0:=NB537_526.1
 have hms85_1:=NB537_527.1
 have hms85_2:=NB537_535.1
 refine skip_ (w1:=?_) (by rfl) rfl ?_ ?_
 rotate_left
 ·go_simp
  rfl
 refine hK.out _ _ zCs fun hHeld=>?_
 clear hK K
 refine done_ (done_of HT_.1 (by kernel_rfl)) ?_
 have hnb86:=NB537_526.1
 have hnc86:=NB526_537.1
 have hnb87:=NB537_527.1
 have hnc87:=NB527_537.1
 have hnb88:=NB537_535.1
 have hnc88:=NB535_537.1
 have hcz89:=zc_5 (w:=w80) BK537.1
 try go_wp2
 generalize hw_:(((((w80.setCell ⟨gb537,0,none⟩ (.int .i64 a2)).setCell ⟨gb537,1,none⟩ (.int .i64 a1_1)).setCell ⟨gb537,2,none⟩ (.int .i64 t536)).setCell ⟨gb537,3,none⟩ (.int .i64 (-1))).setCell ⟨gb537,4,none⟩ (.int .i64 (-1)))=w90
 have n0_:Aside0 (w90.heap[gb526]? =some (.cells #[.slice A1_0 l1_0.length c1_0,.int .i64 a1_1,.int .i64 a1_2] 53 (0,0))):=⟨by rw [←hw_];exact zPq⟩
 have n1_:Aside0 (w90.heap[gb527]? =some (.cells #[.int .i64 0,.int .i64 0,.int .i64 0,.int .i64 0,.int .i64 0] 57 (0,0))):=⟨by rw [←hw_];exact zPq⟩
 have n2_:Aside0 (w90.heap[gb535]? =some (.cells #[.int .i64 t529,.int .i64 t530,.int .i64 t531,.int .i64 t532,.int .i64 t533] 109 (0,0))):=⟨by rw [←hw_];exact zPq⟩
 have n3_:Aside0 (w90.heap[gb537]? =some (.cells #[.int .i64 a2,.int .i64 a1_1,.int .i64 t536,.int .i64 (-1),.int .i64 (-1)] 57 (0,0))):=⟨by rw [←hw_];exact zp5 (zK BK537.1)⟩
 have n4_:Aside0 (Below w.heap.size w w90):=⟨by rw [←hw_];exact zB0⟩
 (try clear BK526)
 (try clear BK527)
 (try clear BK535)
 (try clear BK537)
 (try clear HB)
 clear hw_
 have BK526:=n0_
 have BK527:=n1_
 have BK535:=n2_
 have BK537:=n3_
 have HB:=n4_
 clear n0_ n1_ n2_ n3_ n4_
 replace BK526:=zM (blk_drew BK526.1)
 replace BK527:=zM (blk_drew BK527.1)
 replace BK535:=zM (blk_drew BK535.1)
 replace BK537:=zM (blk_drew BK537.1)
 replace HB:=zM (below_drew1 HB.1)
 obtain ⟨p538,q538,ad538,e538,hx538_0⟩:=zRd (Kd.at_int HR0.1 t536)
 have hw538_0:=hx538_0
 obtain rfl:ad528=ad538:=(by injection e538)
 replace hx538_0:=zHx HB.1 hx538_0
 refine start_ (n:=13) (S:=fun w'=>w'.cell? ⟨gb526,0,none⟩=some (.slice A1_0 l1_0.length c1_0)∧w'.cell? ⟨gb526,1,none⟩=some (.int .i64 a1_1)∧w'.cell? ⟨gb526,2,none⟩=some (.int .i64 a1_2)∧w'.cell? ⟨gb535,0,none⟩=some (.int .i64 t529)∧w'.cell? ⟨gb535,1,none⟩=some (.int .i64 t530)∧w'.cell? ⟨gb535,2,none⟩=some (.int .i64 t531)∧w'.cell? ⟨gb535,3,none⟩=some (.int .i64 t532)∧w'.cell? ⟨gb535,4,none⟩=some (.int .i64 t533)∧w'.cell? ⟨gb537,0,none⟩=some (.int .i64 a2)∧w'.cell? ⟨gb537,1,none⟩=some (.int .i64 a1_1)∧w'.cell? ⟨gb537,2,none⟩=some (.int .i64 t536)∧w'.cell? ⟨gb537,3,none⟩=some (.int .i64 (-1))∧w'.cell? ⟨gb537,4,none⟩=some (.int .i64 (-1))∧w'.cell? (ad528.add (t536).toNat)=some (.int .i64 (rd l0 t536))) (ds:=[12]) zq12_13 (by kernel_rfl) rfl rfl ⟨(blk_cell BK526.1 0).trans rfl,(blk_cell BK526.1 1).trans rfl,(blk_cell BK526.1 2).trans rfl,(blk_cell BK535.1 0).trans rfl,(blk_cell BK535.1 1).trans rfl,(blk_cell BK535.1 2).trans rfl,(blk_cell BK535.1 3).trans rfl,(blk_cell BK535.1 4).trans rfl,(blk_cell BK537.1 0).trans rfl,(blk_cell BK537.1 1).trans rfl,(blk_cell BK537.1 2).trans rfl,(blk_cell BK537.1 3).trans rfl,(blk_cell BK537.1 4).trans rfl,((HB.1.cell (World.block_lt_of_cell? w _ hw538_0)).trans hw538_0)⟩ (fun hHeld=>?_);refine with_tabW impl_eventOf.tab5 impl_eventOf.bits5 (fun HT_ HW_=>?_)
 generalize w90.drew=w91 at BK526 BK527 BK535 BK537 HB hx538_0 hHeld ⊢
 refine zPu 2 ?_
 refine zPu 3 ?_
 refine zTk14 0 hHeld ?_
 refine zTk14 1 hHeld ?_
 refine zTk14 4 hHeld ?_
 refine zPu 5 ?_
 refine zTk14 6 hHeld ?_
 refine zOn 7 (some 39) fun K hK=>?_
 refine zGs Try.func103 #[.agg #[.slice A1_0 l1_0.length c1_0,.int .i64 a1_1,.int .i64 a1_2],.agg #[.int .i64 t529,.int .i64 t530,.int .i64 t531,.int .i64 t532,.int .i64 t533],.int .i64 (rd l0 t536)] ?_
 with_reducible refine (impl_Work.calls k _ _ l1_0 a1_1 a1_2 t529 t530 t531 t532 t533 (rd l0 t536) t539 t542 t543 t544 _ ?side1 ?side2 A35.1).mono ?_
 (case side1=>exact zC (Kd.C_below HR1_0.1 HB.1))
 (case side2=>exact HC1_0.1)
 rintro e w92 ⟨v540,rfl,ho0,hb⟩
 refine ⟨_,rfl,?_⟩
 have HO541:=zM (Kd.R_lower ho0 (below_size zB0))
 replace BK526:=zM (zb BK526.1 hb)
 replace BK527:=zM (zb BK527.1 hb)
 replace BK535:=zM (zb BK535.1 hb)
 replace BK537:=zM (zb BK537.1 hb)
 replace HB:=zM (below_step zB0 hb)
 (try clear ho0)
 refine hK.out _ _ ⟨(blk_cell BK526.1 0).trans rfl,(blk_cell BK526.1 1).trans rfl,(blk_cell BK526.1 2).trans rfl,(blk_cell BK535.1 0).trans rfl,(blk_cell BK535.1 1).trans rfl,(blk_cell BK535.1 2).trans rfl,(blk_cell BK535.1 3).trans rfl,(blk_cell BK535.1 4).trans rfl,(blk_cell BK537.1 0).trans rfl,(blk_cell BK537.1 1).trans rfl,(blk_cell BK537.1 2).trans rfl,(blk_cell BK537.1 3).trans rfl,(blk_cell BK537.1 4).trans rfl,((HB.1.cell (World.block_lt_of_cell? w _ hw538_0)).trans hw538_0)⟩ (fun hHeld=>?_)
 clear hK K
 refine zNo ?_
 refine zPu 8 ?_
 refine zPu 9 ?_
 refine zPu 10 ?_
 refine zPu 11 ?_
 refine last_ (i:=12) (N:=none) zq12_26 rfl rfl (one_of HT_.1 (by kernel_rfl)) (by decide) (fun K hK=>?_)
 obtain ⟨hs93,hfs93⟩:=zHs BK537.1 4
 have hns93_0:=NB526_537.1
 have hns93_1:=NB527_537.1
 have hns93_2:=NB535_537.1
 have hms93_0:=NB537_526.1
 have hms93_1:=NB537_527.1
 have hms93_2:=NB537_535.1
 refine skip_ (w1:=?_) (by rfl) rfl ?_ ?_
 rotate_left
 ·go_simp
  rfl
 refine hK.out _ _ ?_
 clear hK K
 refine done_ (done_of HT_.1 (by kernel_rfl)) ?_
 have hcz94:=zc_5 (w:=w92) BK535.1
 have hcz95:=zc_5 (w:=w92) BK537.1
 obtain ⟨p545,q545,ad545,e545,hx545_0⟩:=zRd (Kd.at_int HR0.1 t536)
 obtain rfl:ad528=ad545:=(by injection e545)
 have hn545_0:ad528.block≠gb537:=Nat.ne_of_lt (Nat.lt_of_lt_of_le (by have:=World.block_lt_of_cell? _ _ hx545_0;first|rwa [add_block] at this|exact this) GW537.1)
 replace hx545_0:=zHx HB.1 hx545_0
 replace hx545_0:=(cell_far (p:=⟨gb537,4,none⟩) (by first|(rw [add_block];exact hn545_0)|(show (Addr.add _ _).block≠_;rw [add_block];exact hn545_0)|exact hn545_0) (.int .i64 t544)).trans hx545_0
 clear hn545_0
 have hcz96:=zc_5 (w:=w92) BK527.1
 try go_wp2
 refine bodyPost_ret (results_cell_row rfl _ _ gb527 57 #[.int .i64 a2,.int .i64 a1_1,.int .i64 t536,.int .i64 (rd l0 t536),.int .i64 t544] (0,0) _ rfl zPq Try.underlying57 rfl (by kernel_rfl)) rfl ?_
 exact ⟨zE,zB0⟩

end Go.Proofs.Ytpcgecacaemalaa.PFnStops
