-- made by wip/tools/myprint.py out of the seat's translation
import Derived.Test.YtaakcbgpmabaaaaPFnSeenx0
import Derived.Test.YtaakcbgpmabaaaaPFnSeenx5
import Derived.Test.YtaakcbgpmabaaaaPFnSeenx6
import Derived.Test.YtaakcbgpmabaaaaPFnSeenx7
import Derived.Test.YtaakcbgpmabaaaaPFnSeenx8
import Derived.Test.YtaakcbgpmabaaaaPFnSeenx9
namespace Go.Proofs.Ytaakcbgpmabaaaa.PFnSeen
open Go.RowKit Go.Proofs.YtaakcbgpmabaaaaW.PrintWords Go.Proofs.YtaakcbgpmabaaaaW.PrintLast Go.Proofs.YtaakcbgpmabaaaaW.PrintMore
attribute [local go_sem] max2_int min2_int max_two min_two max_three min_three max_four min_four -- for this text's walks alone
set_option linter.unusedVariables false
set_option linter.unusedSimpArgs false
set_option maxHeartbeats 8000000
set_option maxRecDepth 100000

/-! ### impl_step: function 40 -/
def impl_step.f (k:Nat) (l0:List Int) (l1_0:List Int) (a1_1:Int) (a1_2:Int):Option (List Int×Int×Int×List Int):=if 0≤a1_1 then (if a1_1<(l0.length:Int) then ((impl_Decode.f (rd l0 a1_1)).bind fun bt425=>((impl_Target.f bt425.1 bt425.2.1 bt425.2.2.1 bt425.2.2.2.1 bt425.2.2.2.2.1 l1_0).bind fun t432=>(if t432≥0 then (if 0≤t432 then (if t432<(l0.length:Int) then ((impl_Work.f k l1_0 a1_1 a1_2 bt425.1 bt425.2.1 bt425.2.2.1 bt425.2.2.2.1 bt425.2.2.2.2.1 (rd l0 t432)).bind fun bt434=>(if bt434.2.2.2≥0 then (some (bt434.1,bt434.2.1,bt434.2.2.1,(l0.set (t432:Int).toNat bt434.2.2.2))) else (some (bt434.1,bt434.2.1,bt434.2.2.1,l0)))) else (none)) else (none)) else ((impl_Work.f k l1_0 a1_1 a1_2 bt425.1 bt425.2.1 bt425.2.2.1 bt425.2.2.2.1 bt425.2.2.2.2.1 0).bind fun bt441=>(if bt441.2.2.2≥0 then (if 0≤t432 then (if t432<(l0.length:Int) then (some (bt441.1,bt441.2.1,bt441.2.2.1,(l0.set (t432:Int).toNat bt441.2.2.2))) else (none)) else (none)) else (some (bt441.1,bt441.2.1,bt441.2.2.1,l0))))))) else (none)) else (none)
theorem impl_step.mono: ∀a0 a1 a2 a3 k,LeO (impl_step.f k a0 a1 a2 a3) (impl_step.f (k+1) a0 a1 a2 a3):=by
 intro a0 a1 a2 a3 k
 unfold impl_step.f
 have mo0:=@impl_Work.mono
 exact zL
theorem impl_step.calls (k:Nat) (P0_:Nat→Prop) (u9000_:Value) (l0:List Int) (A1_0:Option Addr) (c1_0:Nat) (l1_0:List Int) (a1_1:Int) (a1_2:Int) (r1:List Int) (r2:Int) (r3:Int) (r4:List Int) (w0 w:World) (hB:Below w0.heap.size w0 w) (ho0:Kd.R (Kd.int .i64) 3 w w0.heap.size P0_ u9000_ l0) (hr1_0: ∀W_,Kept w W_ (fun k_=>P0_ k_)→Kd.C (Kd.int .i64) W_ A1_0 l1_0.length l1_0) (hc1_0:l1_0.length≤c1_0) (h:impl_step.f k l0 l1_0 a1_1 a1_2=some (r1,r2,r3,r4)):
  Calls Try.prog 40 #[u9000_,.agg #[.slice A1_0 l1_0.length c1_0,.int .i64 a1_1,.int .i64 a1_2]] w fun e w'=>∃v0_:Value,e= .returned (.agg #[v0_,.int .i64 r2,.int .i64 r3])∧Kd.R (Kd.int .i64) 3 w' w0.heap.size (fun k_=>(P0_ k_∨w.heap.size≤k_)∧some k_≠(u9000_:Value).ownBlock) v0_ r1∧Kd.R (Kd.int .i64) 3 w' w0.heap.size (fun k_=>(P0_ k_∨w.heap.size≤k_)) u9000_ r4∧Below w0.heap.size w0 w'∧Kept w w' (fun k_=>P0_ k_):=by
 have hu72:=Try.underlying72
 have hu57:=Try.underlying57
 have HO0:=zM (show Kd.R (Kd.int .i64) 3 w w0.heap.size (fun k_=>(P0_ k_∨w.heap.size≤k_)) u9000_ l0 from Kd.R_mono ho0 (fun k_ hk=>(.inl hk)))
 have HR1_0:=zM hr1_0
 have HC1_0:=zM hc1_0
 clear hr1_0 hc1_0
 have HK:=zM (Kept.refl w (fun k_=>P0_ k_))
 have HW0:=zM hB.size
 have HB:=zM hB
 clear hB
 unfold impl_step.f at h
 have H:=h
 clear h
 replace H:=zIt H
 obtain ⟨c3b0,H⟩:=H
 replace H:=zIt H
 obtain ⟨c4b0,H⟩:=H
 replace H:=zO H
 obtain ⟨⟨t425,t426,t427,t428,t429,t430⟩,A5,H⟩:=H
 try dsimp only at H
 replace H:=zO H
 obtain ⟨t432,A6,H⟩:=H
 by_cases c7:t432≥0
 rotate_left
 ·rw [if_neg c7] at H
  have c7b0:=decide_eq_false c7
  clear c7
  replace H:=zO H
  obtain ⟨⟨t441,t444,t445,t446⟩,A53,H⟩:=H
  try dsimp only at H
  by_cases c54:t446≥0
  rotate_left
  ·rw [if_neg c54] at H
   have c54b0:=decide_eq_false c54
   clear c54
   simp only [Option.some.injEq,Prod.mk.injEq] at H
   obtain ⟨rfl,rfl,rfl,rfl⟩:=H
   go_enter Try.func40,Try.ntmps40
   go_wp2_with (first|((with_reducible refine zBx 3 72 #[.slice A1_0 l1_0.length c1_0,.int .i64 a1_1,.int .i64 a1_2] ?_);intro gb422 hg w80 hbox hb;replace HO0:=zM (Kd.R_below (zR HO0.1) hb);have BK422:=zM hbox;have GW422:=zM ((by rw [hg];exact (by first|exact HK.1.1|exact (show Kept w _ (fun k_=>P0_ k_) from zB56).1):w.heap.size≤gb422));replace HK:=zM (Kept.below (S:=(fun k_=>P0_ k_)) zB56 hb);have GE422:=zM ((by rw [hg];exact (below_size zB3):w0.heap.size≤gb422));replace HB:=zM (below_step zB3 hb);clear hb hbox hg)|((with_reducible refine zBx 4 72 #[.slice none 0 0,.int .i64 0,.int .i64 0] ?_);intro gb423 hg w81 hbox hb;replace HO0:=zM (Kd.R_below (zR HO0.1) hb);have BK423:=zM hbox;have GW423:=zM ((by rw [hg];exact (by first|exact HK.1.1|exact (show Kept w _ (fun k_=>P0_ k_) from zB57).1):w.heap.size≤gb423));replace HK:=zM (Kept.below (S:=(fun k_=>P0_ k_)) zB57 hb);have GE423:=zM ((by rw [hg];exact (below_size zB3):w0.heap.size≤gb423));replace HB:=zM (below_step zB3 hb);have NB422_423:=zM ((zn BK422.1 hg:gb422≠gb423));have NB423_422:=zM ((zm BK422.1 hg:gb423≠gb422));replace BK422:=zM (zb BK422.1 hb);clear hb hbox hg;have hnb82:=NB422_423.1;have hnc82:=NB423_422.1;have hcz83:=zc_3 (w:=w81) BK422.1;obtain ⟨Ao84,co84,eo84⟩:=Kd.R_slice HO0.1;subst eo84;obtain ⟨p424,q424,ad424,e424,hx424_0⟩:=zRd (Kd.at_int (Kd.R_reads' HO0.1).2.2 a1_1);cases e424)|((with_reducible refine zG Try.func30 16 #[.int .i64 (rd l0 a1_1)] ?_);(with_reducible refine (impl_Decode.calls (rd l0 a1_1) t425 t426 t427 t428 t429 t430 _ A5.1).mono ?_);rintro e w85 ⟨rfl,hb⟩;refine ⟨_,rfl,?_⟩;replace HO0:=zM (Kd.R_below (zR HO0.1) hb);replace BK422:=zM (zb BK422.1 hb);replace BK423:=zM (zb BK423.1 hb);replace HK:=zM (Kept.below (S:=(fun k_=>P0_ k_)) zB59 hb);replace HB:=zM (below_step zB3 hb);clear hb)|((with_reducible refine zBx 5 57 #[.int .i64 0,.int .i64 0,.int .i64 0,.int .i64 0,.int .i64 0] ?_);intro gb431 hg w86 hbox hb;replace HO0:=zM (Kd.R_below (zR HO0.1) hb);have BK431:=zM hbox;have GW431:=zM ((by rw [hg];exact (by first|exact HK.1.1|exact (show Kept w _ (fun k_=>P0_ k_) from zB59).1):w.heap.size≤gb431));replace HK:=zM (Kept.below (S:=(fun k_=>P0_ k_)) zB59 hb);have GE431:=zM ((by rw [hg];exact (below_size zB3):w0.heap.size≤gb431));replace HB:=zM (below_step zB3 hb);have NB422_431:=zM ((zn BK422.1 hg:gb422≠gb431));have NB431_422:=zM ((zm BK422.1 hg:gb431≠gb422));replace BK422:=zM (zb BK422.1 hb);have NB423_431:=zM ((zn BK423.1 hg:gb423≠gb431));have NB431_423:=zM ((zm BK423.1 hg:gb431≠gb423));replace BK423:=zM (zb BK423.1 hb);clear hb hbox hg;have hnb87:=NB431_422.1;have hnc87:=NB422_431.1;have hnb88:=NB431_423.1;have hnc88:=NB423_431.1;have hcz89:=zc_5 (w:=w86) BK431.1;have hcz90:=zc_3 (w:=w86) BK422.1)|((with_reducible refine zG Try.func79 22 #[.agg #[.int .i64 t425,.int .i64 t426,.int .i64 t427,.int .i64 t428,.int .i64 t429],.slice A1_0 l1_0.length c1_0] ?_);(with_reducible refine (impl_Target.calls t425 t426 t427 t428 t429 _ _ l1_0 t432 _ ?side1 ?side2 A6.1).mono ?_);(case side1=>exact Kd.C_kept_now HR1_0.1 zB61);(case side2=>exact HC1_0.1);rintro e w91 ⟨rfl,hb⟩;refine ⟨_,rfl,?_⟩;replace HO0:=zM (Kd.R_below (by refine zrR ?_;exact (Kd.R_mono (zfR (zfR (zfR (zfR (zfR (Kd.R_types HO0.1 BK431.1 (by decide))))))) (fun _ h_=>h_.1))) hb);replace BK422:=zM (zf BK422.1 hb);replace BK423:=zM (zf BK423.1 hb);replace BK431:=zM (blk_below (g:=gb431) (o:= .cells #[.int .i64 t425,.int .i64 t426,.int .i64 t427,.int .i64 t428,.int .i64 t429] 57 (0,0)) (by exact zp5 (zK BK431.1)) hb);replace HK:=zM (Kept.below (S:=(fun k_=>P0_ k_)) zB61 hb);replace HB:=zM (below_step zB3 hb);clear hb;have hcz92:=zc_3 (w:=w91) BK422.1;have hcz93:=zc_5 (w:=w91) BK431.1)|((with_reducible refine zG Try.func80 33 #[.agg #[.slice A1_0 l1_0.length c1_0,.int .i64 a1_1,.int .i64 a1_2],.agg #[.int .i64 t425,.int .i64 t426,.int .i64 t427,.int .i64 t428,.int .i64 t429],.int .i64 0] ?_);(with_reducible refine (impl_Work.calls k _ _ l1_0 a1_1 a1_2 t425 t426 t427 t428 t429 0 t441 t444 t445 t446 _ ?side1 ?side2 A53.1).mono ?_);(case side1=>exact Kd.C_kept_now HR1_0.1 zB61);(case side2=>exact HC1_0.1);rintro e w94 ⟨v442,rfl,ho0,hb⟩;refine ⟨_,rfl,?_⟩;have HO443:=zM (Kd.R_lower (Kd.R_new' (Kd.R_newM (M:=fun k_=>(P0_ k_∨w.heap.size≤k_)) ho0 (by first|exact HK.1.1|exact (show Kept w _ (fun k_=>P0_ k_) from zB61).1) (fun k_ h_=> .inr h_)) (Kd.R_lt (zR HO0.1))) (below_size zB3));replace HO0:=zM (Kd.R_elder' (zR HO0.1) (Kd.R_base ho0) hb);replace BK422:=zM (zb BK422.1 hb);replace BK423:=zM (zb BK423.1 hb);replace BK431:=zM (zb BK431.1 hb);replace HK:=zM (Kept.below (S:=(fun k_=>P0_ k_)) zB61 hb);replace HB:=zM (below_step zB3 hb);clear hb ho0;obtain ⟨Ao95,co95,eo95⟩:=Kd.R_slice HO443.1;subst eo95;have hcz96:=zc_3 (w:=w94) BK422.1;have hcz97:=zc_3 (w:=w94) BK423.1))
   refine bodyPost_ret (results_cell_row rfl _ _ gb423 72 #[.slice Ao95 t441.length co95,.int .i64 t444,.int .i64 t445] (0,0) _ rfl zPq Try.underlying72 rfl (by kernel_rfl)) rfl ?_
   exact ⟨_,zE,by refine zrR ?_;exact Kd.R_mono (zfR (zfR (zfR (zgR (zgR (zgR (Kd.R_types (Kd.R_types HO443.1 BK422.1 (by decide)) BK423.1 (by decide)))))))) (fun _ hk=>⟨hk.1.1.1.1,hk.1.1.2⟩),by refine zrR ?_;exact Kd.R_mono (zfR (zfR (zfR (zgR (zgR (zgR (Kd.R_types (Kd.R_types HO0.1 BK422.1 (by decide)) BK423.1 (by decide)))))))) (fun _ hk=>hk.1.1.1),zB3,zB61⟩
  rw [if_pos c54] at H
  have c54b0:=decide_eq_true c54
  clear c54
  replace H:=zIt H
  obtain ⟨c55b0,H⟩:=H
  replace H:=zIt H
  obtain ⟨c56b0,H⟩:=H
  generalize hy447:((l0.set (t432:Int).toNat t446):List Int)=y447 at H
  have Ny447:=zM hy447.symm
  clear hy447
  simp only [Option.some.injEq,Prod.mk.injEq] at H
  obtain ⟨rfl,rfl,rfl,rfl⟩:=H
  go_enter Try.func40,Try.ntmps40
  go_wp2_with (first|((with_reducible refine zBx 3 72 #[.slice A1_0 l1_0.length c1_0,.int .i64 a1_1,.int .i64 a1_2] ?_);intro gb422 hg w58 hbox hb;replace HO0:=zM (Kd.R_below (zR HO0.1) hb);have BK422:=zM hbox;have GW422:=zM ((by rw [hg];exact (by first|exact HK.1.1|exact (show Kept w _ (fun k_=>P0_ k_) from zB56).1):w.heap.size≤gb422));replace HK:=zM (Kept.below (S:=(fun k_=>P0_ k_)) zB56 hb);have GE422:=zM ((by rw [hg];exact (below_size zB3):w0.heap.size≤gb422));replace HB:=zM (below_step zB3 hb);clear hb hbox hg)|((with_reducible refine zBx 4 72 #[.slice none 0 0,.int .i64 0,.int .i64 0] ?_);intro gb423 hg w59 hbox hb;replace HO0:=zM (Kd.R_below (zR HO0.1) hb);have BK423:=zM hbox;have GW423:=zM ((by rw [hg];exact (by first|exact HK.1.1|exact (show Kept w _ (fun k_=>P0_ k_) from zB57).1):w.heap.size≤gb423));replace HK:=zM (Kept.below (S:=(fun k_=>P0_ k_)) zB57 hb);have GE423:=zM ((by rw [hg];exact (below_size zB3):w0.heap.size≤gb423));replace HB:=zM (below_step zB3 hb);have NB422_423:=zM ((zn BK422.1 hg:gb422≠gb423));have NB423_422:=zM ((zm BK422.1 hg:gb423≠gb422));replace BK422:=zM (zb BK422.1 hb);clear hb hbox hg;have hnb60:=NB422_423.1;have hnc60:=NB423_422.1;have hcz61:=zc_3 (w:=w59) BK422.1;obtain ⟨Ao62,co62,eo62⟩:=Kd.R_slice HO0.1;subst eo62;obtain ⟨p424,q424,ad424,e424,hx424_0⟩:=zRd (Kd.at_int (Kd.R_reads' HO0.1).2.2 a1_1);cases e424)|((with_reducible refine zG Try.func30 16 #[.int .i64 (rd l0 a1_1)] ?_);(with_reducible refine (impl_Decode.calls (rd l0 a1_1) t425 t426 t427 t428 t429 t430 _ A5.1).mono ?_);rintro e w63 ⟨rfl,hb⟩;refine ⟨_,rfl,?_⟩;replace HO0:=zM (Kd.R_below (zR HO0.1) hb);replace BK422:=zM (zb BK422.1 hb);replace BK423:=zM (zb BK423.1 hb);replace HK:=zM (Kept.below (S:=(fun k_=>P0_ k_)) zB59 hb);replace HB:=zM (below_step zB3 hb);clear hb)|((with_reducible refine zBx 5 57 #[.int .i64 0,.int .i64 0,.int .i64 0,.int .i64 0,.int .i64 0] ?_);intro gb431 hg w64 hbox hb;replace HO0:=zM (Kd.R_below (zR HO0.1) hb);have BK431:=zM hbox;have GW431:=zM ((by rw [hg];exact (by first|exact HK.1.1|exact (show Kept w _ (fun k_=>P0_ k_) from zB59).1):w.heap.size≤gb431));replace HK:=zM (Kept.below (S:=(fun k_=>P0_ k_)) zB59 hb);have GE431:=zM ((by rw [hg];exact (below_size zB3):w0.heap.size≤gb431));replace HB:=zM (below_step zB3 hb);have NB422_431:=zM ((zn BK422.1 hg:gb422≠gb431));have NB431_422:=zM ((zm BK422.1 hg:gb431≠gb422));replace BK422:=zM (zb BK422.1 hb);have NB423_431:=zM ((zn BK423.1 hg:gb423≠gb431));have NB431_423:=zM ((zm BK423.1 hg:gb431≠gb423));replace BK423:=zM (zb BK423.1 hb);clear hb hbox hg;have hnb65:=NB431_422.1;have hnc65:=NB422_431.1;have hnb66:=NB431_423.1;have hnc66:=NB423_431.1;have hcz67:=zc_5 (w:=w64) BK431.1;have hcz68:=zc_3 (w:=w64) BK422.1)|((with_reducible refine zG Try.func79 22 #[.agg #[.int .i64 t425,.int .i64 t426,.int .i64 t427,.int .i64 t428,.int .i64 t429],.slice A1_0 l1_0.length c1_0] ?_);(with_reducible refine (impl_Target.calls t425 t426 t427 t428 t429 _ _ l1_0 t432 _ ?side1 ?side2 A6.1).mono ?_);(case side1=>exact Kd.C_kept_now HR1_0.1 zB61);(case side2=>exact HC1_0.1);rintro e w69 ⟨rfl,hb⟩;refine ⟨_,rfl,?_⟩;replace HO0:=zM (Kd.R_below (by refine zrR ?_;exact (Kd.R_mono (zfR (zfR (zfR (zfR (zfR (Kd.R_types HO0.1 BK431.1 (by decide))))))) (fun _ h_=>h_.1))) hb);replace BK422:=zM (zf BK422.1 hb);replace BK423:=zM (zf BK423.1 hb);replace BK431:=zM (blk_below (g:=gb431) (o:= .cells #[.int .i64 t425,.int .i64 t426,.int .i64 t427,.int .i64 t428,.int .i64 t429] 57 (0,0)) (by exact zp5 (zK BK431.1)) hb);replace HK:=zM (Kept.below (S:=(fun k_=>P0_ k_)) zB61 hb);replace HB:=zM (below_step zB3 hb);clear hb;have hcz70:=zc_3 (w:=w69) BK422.1;have hcz71:=zc_5 (w:=w69) BK431.1)|((with_reducible refine zG Try.func80 33 #[.agg #[.slice A1_0 l1_0.length c1_0,.int .i64 a1_1,.int .i64 a1_2],.agg #[.int .i64 t425,.int .i64 t426,.int .i64 t427,.int .i64 t428,.int .i64 t429],.int .i64 0] ?_);(with_reducible refine (impl_Work.calls k _ _ l1_0 a1_1 a1_2 t425 t426 t427 t428 t429 0 t441 t444 t445 t446 _ ?side1 ?side2 A53.1).mono ?_);(case side1=>exact Kd.C_kept_now HR1_0.1 zB61);(case side2=>exact HC1_0.1);rintro e w72 ⟨v442,rfl,ho0,hb⟩;refine ⟨_,rfl,?_⟩;have HO443:=zM (Kd.R_lower (Kd.R_new' (Kd.R_newM (M:=fun k_=>(P0_ k_∨w.heap.size≤k_)) ho0 (by first|exact HK.1.1|exact (show Kept w _ (fun k_=>P0_ k_) from zB61).1) (fun k_ h_=> .inr h_)) (Kd.R_lt (zR HO0.1))) (below_size zB3));replace HO0:=zM (Kd.R_elder' (zR HO0.1) (Kd.R_base ho0) hb);replace BK422:=zM (zb BK422.1 hb);replace BK423:=zM (zb BK423.1 hb);replace BK431:=zM (zb BK431.1 hb);replace HK:=zM (Kept.below (S:=(fun k_=>P0_ k_)) zB61 hb);replace HB:=zM (below_step zB3 hb);clear hb ho0;obtain ⟨Ao73,co73,eo73⟩:=Kd.R_slice HO443.1;subst eo73;have hcz74:=zc_3 (w:=w72) BK422.1)|((with_reducible refine gate_store (t:=72) (p:=3) rfl ?_);refine store_event (t:=72) (p:=3) (v:=?vo_w75) (w1:=(((w72.setCell ⟨gb422,0,none⟩ (.slice Ao73 t441.length co73)).setCell ⟨gb422,1,none⟩ (.int .i64 t444)).setCell ⟨gb422,2,none⟩ (.int .i64 t445))) ?hg ?ho ?hn ?hr ?_;(case ho=>rfl);(case hg=>rfl);(case hn=>rfl);(case hr=>exact zHH);intro w75 hw;have n0_:Aside0 (Kd.R (Kd.int .i64) 3 w75 w0.heap.size (fun k_=>(P0_ k_∨w.heap.size≤k_)∧some k_≠(.slice Ao73 t441.length co73:Value).ownBlock) (.slice (some ad424) l0.length co62) l0):=⟨(by rw [hw];exact (by refine zrR ?_;exact Kd.R_mono (zfR (zfR (zfR (Kd.R_types HO0.1 BK422.1 (by decide))))) (fun _ hk=>⟨hk.1.1,hk.1.2⟩)))⟩;have n1_:Aside0 (Kd.R (Kd.int .i64) 3 w75 w0.heap.size (fun k_=>(P0_ k_∨w.heap.size≤k_)∧some k_≠(.slice (some ad424) l0.length co62:Value).ownBlock) (.slice Ao73 t441.length co73) t441):=⟨(by rw [hw];exact (by refine zrR ?_;exact Kd.R_mono (zfR (zfR (zfR (Kd.R_types HO443.1 BK422.1 (by decide))))) (fun _ hk=>⟨hk.1.1.1,hk.1.2⟩)))⟩;have n2_:Aside0 (w75.heap[gb422]? =some (.cells #[.slice Ao73 t441.length co73,.int .i64 t444,.int .i64 t445] 72 (0,0))):=⟨(by rw [hw];exact (by exact zp3 (zK BK422.1)))⟩;have n3_:Aside0 (w75.heap[gb423]? =some (.cells #[.slice none 0 0,.int .i64 0,.int .i64 0] 72 (0,0))):=⟨(by rw [hw];exact zPq)⟩;have n4_:Aside0 (w75.heap[gb431]? =some (.cells #[.int .i64 t425,.int .i64 t426,.int .i64 t427,.int .i64 t428,.int .i64 t429] 57 (0,0))):=⟨(by rw [hw];exact zPq)⟩;have n5_:Aside0 (Kept w w75 (fun k_=>P0_ k_)):=⟨(by rw [hw];exact zB61)⟩;have n6_:Aside0 (Below w0.heap.size w0 w75):=⟨(by rw [hw];exact zB3)⟩;clear hw;clear HO0;clear HO443;clear BK422;clear BK423;clear BK431;clear HK;clear HB;have HO0:=n0_;have HO443:=n1_;have BK422:=n2_;have BK423:=n3_;have BK431:=n4_;have HK:=n5_;have HB:=n6_;clear n0_ n1_ n2_ n3_ n4_ n5_ n6_;have p57:0≤(t432:Int):=zA;have q57:(t432:Int)<((l0.length:Int):Int):=zA;obtain ⟨go57,co57,eo57,gb57,gl57,cl57,HG57⟩:=Kd.R_form HO0.1 (by omega);(first|cases eo57|(injection eo57 with ea_ en_ ec_;(first|subst ea_|(injection ea_ with ea_;subst ea_));subst ec_;clear en_));have GB57:=zM gb57;have GG57:=zM HG57;clear gb57 gl57 HG57;have HMgo57:=zM (show (P0_ go57∨w.heap.size≤go57) from (HO0.1.1 _ rfl).1);(first|simp only [add_plain] at hx424_0|skip);(first|simp only [add_plain] at hx433_0|skip);obtain ⟨hx57_0,hf57_0⟩:=Kd.R_celln 0 HO0.1 (t432:Int) p57 q57;replace p57:=eq_true p57;replace q57:=eq_true q57;obtain ⟨hy76_,hz76_⟩:=Kd.R_celln 0 HO0.1 (t432:Int) zA zA;have HP76:=Kd.R_putg HO0.1 (t432:Int) t446)|((with_reducible refine gate_store (t:=3) (p:=41) rfl ?_);refine store_event (t:=3) (p:=41) (v:=?vo_w77) (w1:=(w75.setCell ⟨go57,(t432:Int).toNat,none⟩ (.int .i64 t446))) ?hg ?ho ?hn ?hr ?_;(case ho=>rfl);(case hg=>rfl);(case hn=>rfl);(case hr=>exact zHH);intro w77 hw;have hg:w75.grownBy w77 (some go57):=(by rw [hw];exact HP76.2);have hp_:Kd.R (Kd.int .i64) 3 w77 w0.heap.size (fun k_=>(P0_ k_∨w.heap.size≤k_)∧some k_≠(.slice Ao73 t441.length co73:Value).ownBlock) (.slice (some ⟨go57,0,none⟩) l0.length co62) y447:=(by rw [hw,Ny447.1];exact HP76.1);clear HP76;replace BK422:=zM (zg BK422.1 hg (Kd.R_ne HO0.1 BK422.1 (by decide)));replace BK423:=zM (zg BK423.1 hg (Kd.R_ne HO0.1 BK423.1 (by decide)));replace BK431:=zM (zg BK431.1 hg (Kd.R_ne HO0.1 BK431.1 (by decide)));replace HO443:=zM (Kd.R_after (v:=(.slice (some ⟨go57,0,none⟩) l0.length co62)) (v1:=(.slice (some ⟨go57,0,none⟩) l0.length co62)) (ok:=(fun k_=>(P0_ k_∨w.heap.size≤k_))) (zR HO443.1) hg (.inl rfl));replace HB:=zM ((by rw [hw];exact below_set (HB.1) GB57.1:Below w0.heap.size w0 w77));replace HK:=zM (Kept.of_grown (S:=(fun k_=>P0_ k_)) hg zB61 (fun k_ e_=>(HO0.1.1 k_ e_).1));replace HO0:=zM hp_;clear hg hw hp_;have hcz78:=zc_3 (w:=w77) BK422.1;have hcz79:=zc_3 (w:=w77) BK423.1))
  refine bodyPost_ret (results_cell_row rfl _ _ gb423 72 #[.slice Ao73 t441.length co73,.int .i64 t444,.int .i64 t445] (0,0) _ rfl (by exact zp3 (zK BK423.1)) Try.underlying72 rfl (by kernel_rfl)) rfl ?_
  exact ⟨_,zE,by refine zrR ?_;exact Kd.R_mono (zfR (zfR (zfR (Kd.R_types HO443.1 BK423.1 (by decide))))) (fun _ hk=>⟨hk.1.1,hk.1.2⟩),by refine zrR ?_;exact Kd.R_mono (zfR (zfR (zfR (Kd.R_types HO0.1 BK423.1 (by decide))))) (fun _ hk=>hk.1.1),zB3,zB61⟩
 rw [if_pos c7] at H
 have c7b0:=decide_eq_true c7
 clear c7
 replace H:=zIt H
 obtain ⟨c8b0,H⟩:=H
 replace H:=zIt H
 obtain ⟨c9b0,H⟩:=H
 replace H:=zO H
 obtain ⟨⟨t434,t437,t438,t439⟩,A10,H⟩:=H
 try dsimp only at H
 by_cases c11:t439≥0
 rotate_left
 ·rw [if_neg c11] at H
  have c11b0:=decide_eq_false c11
  clear c11
  simp only [Option.some.injEq,Prod.mk.injEq] at H
  obtain ⟨rfl,rfl,rfl,rfl⟩:=H
  go_enter Try.func40,Try.ntmps40
  go_wp2_with (first|((with_reducible refine zBx 3 72 #[.slice A1_0 l1_0.length c1_0,.int .i64 a1_1,.int .i64 a1_2] ?_);intro gb422 hg w35 hbox hb;replace HO0:=zM (Kd.R_below (zR HO0.1) hb);have BK422:=zM hbox;have GW422:=zM ((by rw [hg];exact (by first|exact HK.1.1|exact (show Kept w _ (fun k_=>P0_ k_) from zB56).1):w.heap.size≤gb422));replace HK:=zM (Kept.below (S:=(fun k_=>P0_ k_)) zB56 hb);have GE422:=zM ((by rw [hg];exact (below_size zB3):w0.heap.size≤gb422));replace HB:=zM (below_step zB3 hb);clear hb hbox hg)|((with_reducible refine zBx 4 72 #[.slice none 0 0,.int .i64 0,.int .i64 0] ?_);intro gb423 hg w36 hbox hb;replace HO0:=zM (Kd.R_below (zR HO0.1) hb);have BK423:=zM hbox;have GW423:=zM ((by rw [hg];exact (by first|exact HK.1.1|exact (show Kept w _ (fun k_=>P0_ k_) from zB57).1):w.heap.size≤gb423));replace HK:=zM (Kept.below (S:=(fun k_=>P0_ k_)) zB57 hb);have GE423:=zM ((by rw [hg];exact (below_size zB3):w0.heap.size≤gb423));replace HB:=zM (below_step zB3 hb);have NB422_423:=zM ((zn BK422.1 hg:gb422≠gb423));have NB423_422:=zM ((zm BK422.1 hg:gb423≠gb422));replace BK422:=zM (zb BK422.1 hb);clear hb hbox hg;have hnb37:=NB422_423.1;have hnc37:=NB423_422.1;have hcz38:=zc_3 (w:=w36) BK422.1;obtain ⟨Ao39,co39,eo39⟩:=Kd.R_slice HO0.1;subst eo39;obtain ⟨p424,q424,ad424,e424,hx424_0⟩:=zRd (Kd.at_int (Kd.R_reads' HO0.1).2.2 a1_1);cases e424)|((with_reducible refine zG Try.func30 16 #[.int .i64 (rd l0 a1_1)] ?_);(with_reducible refine (impl_Decode.calls (rd l0 a1_1) t425 t426 t427 t428 t429 t430 _ A5.1).mono ?_);rintro e w40 ⟨rfl,hb⟩;refine ⟨_,rfl,?_⟩;replace HO0:=zM (Kd.R_below (zR HO0.1) hb);replace BK422:=zM (zb BK422.1 hb);replace BK423:=zM (zb BK423.1 hb);replace HK:=zM (Kept.below (S:=(fun k_=>P0_ k_)) zB59 hb);replace HB:=zM (below_step zB3 hb);clear hb)|((with_reducible refine zBx 5 57 #[.int .i64 0,.int .i64 0,.int .i64 0,.int .i64 0,.int .i64 0] ?_);intro gb431 hg w41 hbox hb;replace HO0:=zM (Kd.R_below (zR HO0.1) hb);have BK431:=zM hbox;have GW431:=zM ((by rw [hg];exact (by first|exact HK.1.1|exact (show Kept w _ (fun k_=>P0_ k_) from zB59).1):w.heap.size≤gb431));replace HK:=zM (Kept.below (S:=(fun k_=>P0_ k_)) zB59 hb);have GE431:=zM ((by rw [hg];exact (below_size zB3):w0.heap.size≤gb431));replace HB:=zM (below_step zB3 hb);have NB422_431:=zM ((zn BK422.1 hg:gb422≠gb431));have NB431_422:=zM ((zm BK422.1 hg:gb431≠gb422));replace BK422:=zM (zb BK422.1 hb);have NB423_431:=zM ((zn BK423.1 hg:gb423≠gb431));have NB431_423:=zM ((zm BK423.1 hg:gb431≠gb423));replace BK423:=zM (zb BK423.1 hb);clear hb hbox hg;have hnb42:=NB431_422.1;have hnc42:=NB422_431.1;have hnb43:=NB431_423.1;have hnc43:=NB423_431.1;have hcz44:=zc_5 (w:=w41) BK431.1;have hcz45:=zc_3 (w:=w41) BK422.1)|((with_reducible refine zG Try.func79 22 #[.agg #[.int .i64 t425,.int .i64 t426,.int .i64 t427,.int .i64 t428,.int .i64 t429],.slice A1_0 l1_0.length c1_0] ?_);(with_reducible refine (impl_Target.calls t425 t426 t427 t428 t429 _ _ l1_0 t432 _ ?side1 ?side2 A6.1).mono ?_);(case side1=>exact Kd.C_kept_now HR1_0.1 zB61);(case side2=>exact HC1_0.1);rintro e w46 ⟨rfl,hb⟩;refine ⟨_,rfl,?_⟩;replace HO0:=zM (Kd.R_below (by refine zrR ?_;exact (Kd.R_mono (zfR (zfR (zfR (zfR (zfR (Kd.R_types HO0.1 BK431.1 (by decide))))))) (fun _ h_=>h_.1))) hb);replace BK422:=zM (zf BK422.1 hb);replace BK423:=zM (zf BK423.1 hb);replace BK431:=zM (blk_below (g:=gb431) (o:= .cells #[.int .i64 t425,.int .i64 t426,.int .i64 t427,.int .i64 t428,.int .i64 t429] 57 (0,0)) (by exact zp5 (zK BK431.1)) hb);replace HK:=zM (Kept.below (S:=(fun k_=>P0_ k_)) zB61 hb);replace HB:=zM (below_step zB3 hb);clear hb;obtain ⟨p433,q433,ad433,e433,hx433_0⟩:=zRd (Kd.at_int (Kd.R_reads' HO0.1).2.2 t432);obtain rfl:ad424=ad433:=(by injection e433);have hcz47:=zc_3 (w:=w46) BK422.1;have hcz48:=zc_5 (w:=w46) BK431.1)|((with_reducible refine zG Try.func80 33 #[.agg #[.slice A1_0 l1_0.length c1_0,.int .i64 a1_1,.int .i64 a1_2],.agg #[.int .i64 t425,.int .i64 t426,.int .i64 t427,.int .i64 t428,.int .i64 t429],.int .i64 (rd l0 t432)] ?_);(with_reducible refine (impl_Work.calls k _ _ l1_0 a1_1 a1_2 t425 t426 t427 t428 t429 (rd l0 t432) t434 t437 t438 t439 _ ?side1 ?side2 A10.1).mono ?_);(case side1=>exact Kd.C_kept_now HR1_0.1 zB61);(case side2=>exact HC1_0.1);rintro e w49 ⟨v435,rfl,ho0,hb⟩;refine ⟨_,rfl,?_⟩;have HO436:=zM (Kd.R_lower (Kd.R_new' (Kd.R_newM (M:=fun k_=>(P0_ k_∨w.heap.size≤k_)) ho0 (by first|exact HK.1.1|exact (show Kept w _ (fun k_=>P0_ k_) from zB61).1) (fun k_ h_=> .inr h_)) (Kd.R_lt (zR HO0.1))) (below_size zB3));replace HO0:=zM (Kd.R_elder' (zR HO0.1) (Kd.R_base ho0) hb);replace BK422:=zM (zb BK422.1 hb);replace BK423:=zM (zb BK423.1 hb);replace BK431:=zM (zb BK431.1 hb);replace HK:=zM (Kept.below (S:=(fun k_=>P0_ k_)) zB61 hb);replace HB:=zM (below_step zB3 hb);clear hb ho0;obtain ⟨Ao50,co50,eo50⟩:=Kd.R_slice HO436.1;subst eo50;have hcz51:=zc_3 (w:=w49) BK422.1;have hcz52:=zc_3 (w:=w49) BK423.1))
  refine bodyPost_ret (results_cell_row rfl _ _ gb423 72 #[.slice Ao50 t434.length co50,.int .i64 t437,.int .i64 t438] (0,0) _ rfl zPq Try.underlying72 rfl (by kernel_rfl)) rfl ?_
  exact ⟨_,zE,by refine zrR ?_;exact Kd.R_mono (zfR (zfR (zfR (zgR (zgR (zgR (Kd.R_types (Kd.R_types HO436.1 BK422.1 (by decide)) BK423.1 (by decide)))))))) (fun _ hk=>⟨hk.1.1.1.1,hk.1.1.2⟩),by refine zrR ?_;exact Kd.R_mono (zfR (zfR (zfR (zgR (zgR (zgR (Kd.R_types (Kd.R_types HO0.1 BK422.1 (by decide)) BK423.1 (by decide)))))))) (fun _ hk=>hk.1.1.1),zB3,zB61⟩
 rw [if_pos c11] at H
 have c11b0:=decide_eq_true c11
 clear c11
 generalize hy440:((l0.set (t432:Int).toNat t439):List Int)=y440 at H
 have Ny440:=zM hy440.symm
 clear hy440
 simp only [Option.some.injEq,Prod.mk.injEq] at H
 obtain ⟨rfl,rfl,rfl,rfl⟩:=H
 go_enter Try.func40,Try.ntmps40
 go_wp2_with (first|((with_reducible refine zBx 3 72 #[.slice A1_0 l1_0.length c1_0,.int .i64 a1_1,.int .i64 a1_2] ?_);intro gb422 hg w13 hbox hb;replace HO0:=zM (Kd.R_below (zR HO0.1) hb);have BK422:=zM hbox;have GW422:=zM ((by rw [hg];exact (by first|exact HK.1.1|exact (show Kept w _ (fun k_=>P0_ k_) from zB56).1):w.heap.size≤gb422));replace HK:=zM (Kept.below (S:=(fun k_=>P0_ k_)) zB56 hb);have GE422:=zM ((by rw [hg];exact (below_size zB3):w0.heap.size≤gb422));replace HB:=zM (below_step zB3 hb);clear hb hbox hg)|((with_reducible refine zBx 4 72 #[.slice none 0 0,.int .i64 0,.int .i64 0] ?_);intro gb423 hg w14 hbox hb;replace HO0:=zM (Kd.R_below (zR HO0.1) hb);have BK423:=zM hbox;have GW423:=zM ((by rw [hg];exact (by first|exact HK.1.1|exact (show Kept w _ (fun k_=>P0_ k_) from zB57).1):w.heap.size≤gb423));replace HK:=zM (Kept.below (S:=(fun k_=>P0_ k_)) zB57 hb);have GE423:=zM ((by rw [hg];exact (below_size zB3):w0.heap.size≤gb423));replace HB:=zM (below_step zB3 hb);have NB422_423:=zM ((zn BK422.1 hg:gb422≠gb423));have NB423_422:=zM ((zm BK422.1 hg:gb423≠gb422));replace BK422:=zM (zb BK422.1 hb);clear hb hbox hg;have hnb15:=NB422_423.1;have hnc15:=NB423_422.1;have hcz16:=zc_3 (w:=w14) BK422.1;obtain ⟨Ao17,co17,eo17⟩:=Kd.R_slice HO0.1;subst eo17;obtain ⟨p424,q424,ad424,e424,hx424_0⟩:=zRd (Kd.at_int (Kd.R_reads' HO0.1).2.2 a1_1);cases e424)|((with_reducible refine zG Try.func30 16 #[.int .i64 (rd l0 a1_1)] ?_);(with_reducible refine (impl_Decode.calls (rd l0 a1_1) t425 t426 t427 t428 t429 t430 _ A5.1).mono ?_);rintro e w18 ⟨rfl,hb⟩;refine ⟨_,rfl,?_⟩;replace HO0:=zM (Kd.R_below (zR HO0.1) hb);replace BK422:=zM (zb BK422.1 hb);replace BK423:=zM (zb BK423.1 hb);replace HK:=zM (Kept.below (S:=(fun k_=>P0_ k_)) zB59 hb);replace HB:=zM (below_step zB3 hb);clear hb)|((with_reducible refine zBx 5 57 #[.int .i64 0,.int .i64 0,.int .i64 0,.int .i64 0,.int .i64 0] ?_);intro gb431 hg w19 hbox hb;replace HO0:=zM (Kd.R_below (zR HO0.1) hb);have BK431:=zM hbox;have GW431:=zM ((by rw [hg];exact (by first|exact HK.1.1|exact (show Kept w _ (fun k_=>P0_ k_) from zB59).1):w.heap.size≤gb431));replace HK:=zM (Kept.below (S:=(fun k_=>P0_ k_)) zB59 hb);have GE431:=zM ((by rw [hg];exact (below_size zB3):w0.heap.size≤gb431));replace HB:=zM (below_step zB3 hb);have NB422_431:=zM ((zn BK422.1 hg:gb422≠gb431));have NB431_422:=zM ((zm BK422.1 hg:gb431≠gb422));replace BK422:=zM (zb BK422.1 hb);have NB423_431:=zM ((zn BK423.1 hg:gb423≠gb431));have NB431_423:=zM ((zm BK423.1 hg:gb431≠gb423));replace BK423:=zM (zb BK423.1 hb);clear hb hbox hg;have hnb20:=NB431_422.1;have hnc20:=NB422_431.1;have hnb21:=NB431_423.1;have hnc21:=NB423_431.1;have hcz22:=zc_5 (w:=w19) BK431.1;have hcz23:=zc_3 (w:=w19) BK422.1)|((with_reducible refine zG Try.func79 22 #[.agg #[.int .i64 t425,.int .i64 t426,.int .i64 t427,.int .i64 t428,.int .i64 t429],.slice A1_0 l1_0.length c1_0] ?_);(with_reducible refine (impl_Target.calls t425 t426 t427 t428 t429 _ _ l1_0 t432 _ ?side1 ?side2 A6.1).mono ?_);(case side1=>exact Kd.C_kept_now HR1_0.1 zB61);(case side2=>exact HC1_0.1);rintro e w24 ⟨rfl,hb⟩;refine ⟨_,rfl,?_⟩;replace HO0:=zM (Kd.R_below (by refine zrR ?_;exact (Kd.R_mono (zfR (zfR (zfR (zfR (zfR (Kd.R_types HO0.1 BK431.1 (by decide))))))) (fun _ h_=>h_.1))) hb);replace BK422:=zM (zf BK422.1 hb);replace BK423:=zM (zf BK423.1 hb);replace BK431:=zM (blk_below (g:=gb431) (o:= .cells #[.int .i64 t425,.int .i64 t426,.int .i64 t427,.int .i64 t428,.int .i64 t429] 57 (0,0)) (by exact zp5 (zK BK431.1)) hb);replace HK:=zM (Kept.below (S:=(fun k_=>P0_ k_)) zB61 hb);replace HB:=zM (below_step zB3 hb);clear hb;obtain ⟨p433,q433,ad433,e433,hx433_0⟩:=zRd (Kd.at_int (Kd.R_reads' HO0.1).2.2 t432);obtain rfl:ad424=ad433:=(by injection e433);have hcz25:=zc_3 (w:=w24) BK422.1;have hcz26:=zc_5 (w:=w24) BK431.1)|((with_reducible refine zG Try.func80 33 #[.agg #[.slice A1_0 l1_0.length c1_0,.int .i64 a1_1,.int .i64 a1_2],.agg #[.int .i64 t425,.int .i64 t426,.int .i64 t427,.int .i64 t428,.int .i64 t429],.int .i64 (rd l0 t432)] ?_);(with_reducible refine (impl_Work.calls k _ _ l1_0 a1_1 a1_2 t425 t426 t427 t428 t429 (rd l0 t432) t434 t437 t438 t439 _ ?side1 ?side2 A10.1).mono ?_);(case side1=>exact Kd.C_kept_now HR1_0.1 zB61);(case side2=>exact HC1_0.1);rintro e w27 ⟨v435,rfl,ho0,hb⟩;refine ⟨_,rfl,?_⟩;have HO436:=zM (Kd.R_lower (Kd.R_new' (Kd.R_newM (M:=fun k_=>(P0_ k_∨w.heap.size≤k_)) ho0 (by first|exact HK.1.1|exact (show Kept w _ (fun k_=>P0_ k_) from zB61).1) (fun k_ h_=> .inr h_)) (Kd.R_lt (zR HO0.1))) (below_size zB3));replace HO0:=zM (Kd.R_elder' (zR HO0.1) (Kd.R_base ho0) hb);replace BK422:=zM (zb BK422.1 hb);replace BK423:=zM (zb BK423.1 hb);replace BK431:=zM (zb BK431.1 hb);replace HK:=zM (Kept.below (S:=(fun k_=>P0_ k_)) zB61 hb);replace HB:=zM (below_step zB3 hb);clear hb ho0;obtain ⟨Ao28,co28,eo28⟩:=Kd.R_slice HO436.1;subst eo28;have hcz29:=zc_3 (w:=w27) BK422.1)|((with_reducible refine gate_store (t:=72) (p:=3) rfl ?_);refine store_event (t:=72) (p:=3) (v:=?vo_w30) (w1:=(((w27.setCell ⟨gb422,0,none⟩ (.slice Ao28 t434.length co28)).setCell ⟨gb422,1,none⟩ (.int .i64 t437)).setCell ⟨gb422,2,none⟩ (.int .i64 t438))) ?hg ?ho ?hn ?hr ?_;(case ho=>rfl);(case hg=>rfl);(case hn=>rfl);(case hr=>exact zHH);intro w30 hw;have n0_:Aside0 (Kd.R (Kd.int .i64) 3 w30 w0.heap.size (fun k_=>(P0_ k_∨w.heap.size≤k_)∧some k_≠(.slice Ao28 t434.length co28:Value).ownBlock) (.slice (some ad424) l0.length co17) l0):=⟨(by rw [hw];exact (by refine zrR ?_;exact Kd.R_mono (zfR (zfR (zfR (Kd.R_types HO0.1 BK422.1 (by decide))))) (fun _ hk=>⟨hk.1.1,hk.1.2⟩)))⟩;have n1_:Aside0 (Kd.R (Kd.int .i64) 3 w30 w0.heap.size (fun k_=>(P0_ k_∨w.heap.size≤k_)∧some k_≠(.slice (some ad424) l0.length co17:Value).ownBlock) (.slice Ao28 t434.length co28) t434):=⟨(by rw [hw];exact (by refine zrR ?_;exact Kd.R_mono (zfR (zfR (zfR (Kd.R_types HO436.1 BK422.1 (by decide))))) (fun _ hk=>⟨hk.1.1.1,hk.1.2⟩)))⟩;have n2_:Aside0 (w30.heap[gb422]? =some (.cells #[.slice Ao28 t434.length co28,.int .i64 t437,.int .i64 t438] 72 (0,0))):=⟨(by rw [hw];exact (by exact zp3 (zK BK422.1)))⟩;have n3_:Aside0 (w30.heap[gb423]? =some (.cells #[.slice none 0 0,.int .i64 0,.int .i64 0] 72 (0,0))):=⟨(by rw [hw];exact zPq)⟩;have n4_:Aside0 (w30.heap[gb431]? =some (.cells #[.int .i64 t425,.int .i64 t426,.int .i64 t427,.int .i64 t428,.int .i64 t429] 57 (0,0))):=⟨(by rw [hw];exact zPq)⟩;have n5_:Aside0 (Kept w w30 (fun k_=>P0_ k_)):=⟨(by rw [hw];exact zB61)⟩;have n6_:Aside0 (Below w0.heap.size w0 w30):=⟨(by rw [hw];exact zB3)⟩;clear hw;clear HO0;clear HO436;clear BK422;clear BK423;clear BK431;clear HK;clear HB;have HO0:=n0_;have HO436:=n1_;have BK422:=n2_;have BK423:=n3_;have BK431:=n4_;have HK:=n5_;have HB:=n6_;clear n0_ n1_ n2_ n3_ n4_ n5_ n6_;have p12:0≤(t432:Int):=zA;have q12:(t432:Int)<((l0.length:Int):Int):=zA;obtain ⟨go12,co12,eo12,gb12,gl12,cl12,HG12⟩:=Kd.R_form HO0.1 (by omega);(first|cases eo12|(injection eo12 with ea_ en_ ec_;(first|subst ea_|(injection ea_ with ea_;subst ea_));subst ec_;clear en_));have GB12:=zM gb12;have GG12:=zM HG12;clear gb12 gl12 HG12;have HMgo12:=zM (show (P0_ go12∨w.heap.size≤go12) from (HO0.1.1 _ rfl).1);(first|simp only [add_plain] at hx424_0|skip);(first|simp only [add_plain] at hx433_0|skip);obtain ⟨hx12_0,hf12_0⟩:=Kd.R_celln 0 HO0.1 (t432:Int) p12 q12;replace p12:=eq_true p12;replace q12:=eq_true q12;obtain ⟨hy31_,hz31_⟩:=Kd.R_celln 0 HO0.1 (t432:Int) zA zA;have HP31:=Kd.R_putg HO0.1 (t432:Int) t439)|((with_reducible refine gate_store (t:=3) (p:=41) rfl ?_);refine store_event (t:=3) (p:=41) (v:=?vo_w32) (w1:=(w30.setCell ⟨go12,(t432:Int).toNat,none⟩ (.int .i64 t439))) ?hg ?ho ?hn ?hr ?_;(case ho=>rfl);(case hg=>rfl);(case hn=>rfl);(case hr=>exact zHH);intro w32 hw;have hg:w30.grownBy w32 (some go12):=(by rw [hw];exact HP31.2);have hp_:Kd.R (Kd.int .i64) 3 w32 w0.heap.size (fun k_=>(P0_ k_∨w.heap.size≤k_)∧some k_≠(.slice Ao28 t434.length co28:Value).ownBlock) (.slice (some ⟨go12,0,none⟩) l0.length co17) y440:=(by rw [hw,Ny440.1];exact HP31.1);clear HP31;replace BK422:=zM (zg BK422.1 hg (Kd.R_ne HO0.1 BK422.1 (by decide)));replace BK423:=zM (zg BK423.1 hg (Kd.R_ne HO0.1 BK423.1 (by decide)));replace BK431:=zM (zg BK431.1 hg (Kd.R_ne HO0.1 BK431.1 (by decide)));replace HO436:=zM (Kd.R_after (v:=(.slice (some ⟨go12,0,none⟩) l0.length co17)) (v1:=(.slice (some ⟨go12,0,none⟩) l0.length co17)) (ok:=(fun k_=>(P0_ k_∨w.heap.size≤k_))) (zR HO436.1) hg (.inl rfl));replace HB:=zM ((by rw [hw];exact below_set (HB.1) GB12.1:Below w0.heap.size w0 w32));replace HK:=zM (Kept.of_grown (S:=(fun k_=>P0_ k_)) hg zB61 (fun k_ e_=>(HO0.1.1 k_ e_).1));replace HO0:=zM hp_;clear hg hw hp_;have hcz33:=zc_3 (w:=w32) BK422.1;have hcz34:=zc_3 (w:=w32) BK423.1))
 refine bodyPost_ret (results_cell_row rfl _ _ gb423 72 #[.slice Ao28 t434.length co28,.int .i64 t437,.int .i64 t438] (0,0) _ rfl (by exact zp3 (zK BK423.1)) Try.underlying72 rfl (by kernel_rfl)) rfl ?_
 exact ⟨_,zE,by refine zrR ?_;exact Kd.R_mono (zfR (zfR (zfR (Kd.R_types HO436.1 BK423.1 (by decide))))) (fun _ hk=>⟨hk.1.1,hk.1.2⟩),by refine zrR ?_;exact Kd.R_mono (zfR (zfR (zfR (Kd.R_types HO0.1 BK423.1 (by decide))))) (fun _ hk=>hk.1.1),zB3,zB61⟩

/-! ### impl_Trace: function 7 -/
mutual
def impl_Trace.j0:Nat→List Int→List (S72)→List Int→List (S74)→Bool→Option ((List (S74)))
 |0,_,_,_,_,_=>none
 |k+1,x0,x1,x2,x7,x18=>if x18=true then (some x7) else ((slices_Clone_int_int.f x0).bind fun t452=>((impl_copyHarts.f k x1).bind fun t455=>(impl_Trace.l0 k t452 t455 x7 x2 (x2.length:Int) 0)))
def impl_Trace.l0:Nat→List Int→List (S72)→List (S74)→List Int→Int→Int→Option ((List (S74)))
 |0,_,_,_,_,_,_=>none
 |k+1,x0,x1,x7,x24,x25,x26=>if x26<x25 then (if 0≤x26 then (if x26<(x24.length:Int) then ((impl_from.f (rd x24 x26) 0 (wrap64 ((x1.length:Int)-1))).bind fun t459=>(if t459=true then (if 0≤(rd x24 x26) then (if (rd x24 x26)<(x1.length:Int) then ((impl_goes.f k ((rd_T72 x1 (rd x24 x26)).f0) ((rd_T72 x1 (rd x24 x26)).f1) ((rd_T72 x1 (rd x24 x26)).f2)).bind fun t461=>(impl_Trace.j2 k x0 x1 x7 (rd x24 x26) x24 x25 x26 t461)) else (none)) else (none)) else (impl_Trace.j2 k x0 x1 x7 (rd x24 x26) x24 x25 x26 false))) else (none)) else (none)) else (some x7)
def impl_Trace.j2:Nat→List Int→List (S72)→List (S74)→Int→List Int→Int→Int→Bool→Option ((List (S74)))
 |0,_,_,_,_,_,_,_,_=>none
 |k+1,x0,x1,x7,x9,x24,x25,x26,x41=>if x41=true then (if 0≤x9 then (if x9<(x1.length:Int) then ((impl_eventOf.f k x0 ((rd_T72 x1 x9).f0) ((rd_T72 x1 x9).f1) ((rd_T72 x1 x9).f2) x9).bind fun bt463=>(if x7.length<3518437208883 then ((impl_step.f k x0 ((rd_T72 x1 x9).f0) ((rd_T72 x1 x9).f1) ((rd_T72 x1 x9).f2)).bind fun bt472=>(impl_Trace.l0 k bt472.2.2.2 (x1.set (x9:Int).toNat (⟨bt472.1,bt472.2.1,bt472.2.2.1⟩:S72)) (x7++[(⟨bt463.1,bt463.2.1,bt463.2.2.1,bt463.2.2.2.1,bt463.2.2.2.2⟩:S74)]) x24 x25 (wrap64 (x26+1)))) else (none))) else (none)) else (none)) else (impl_Trace.l0 k x0 x1 x7 x24 x25 (wrap64 (x26+1)))
end
def impl_Trace.f (k:Nat) (l0:List Int) (l1:List (S72)) (l2:List Int):Option ((List (S74))):=(some (([]:List (S74)):List (S74))).bind fun y448=>(if (l2.length:Int)>2000 then (impl_Trace.j0 k l0 l1 l2 y448 true) else ((impl_memOk.f k l0).bind fun t451=>(impl_Trace.j0 k l0 l1 l2 y448 (!t451))))
theorem impl_Trace.mono_l: ∀k,(∀y0 y1 y2 y3 y4,LeO (impl_Trace.j0 k y0 y1 y2 y3 y4) (impl_Trace.j0 (k+1) y0 y1 y2 y3 y4))∧(∀y0 y1 y2 y3 y4 y5,LeO (impl_Trace.l0 k y0 y1 y2 y3 y4 y5) (impl_Trace.l0 (k+1) y0 y1 y2 y3 y4 y5))∧(∀y0 y1 y2 y3 y4 y5 y6 y7,LeO (impl_Trace.j2 k y0 y1 y2 y3 y4 y5 y6 y7) (impl_Trace.j2 (k+1) y0 y1 y2 y3 y4 y5 y6 y7))
 |0=>⟨fun _ _ _ _ _ r h=>by simp [impl_Trace.j0] at h,fun _ _ _ _ _ _ r h=>by simp [impl_Trace.l0] at h,fun _ _ _ _ _ _ _ _ r h=>by simp [impl_Trace.j2] at h⟩
 |k+1=>by
  obtain ⟨ih0,ih1,ih2⟩:=impl_Trace.mono_l k
  refine ⟨?_,?_,?_⟩
  ·intros
   unfold impl_Trace.j0
   have mo0:=@impl_copyHarts.mono
   have mo1:=@impl_eventOf.mono
   have mo2:=@impl_goes.mono
   have mo3:=@impl_memOk.mono
   have mo4:=@impl_step.mono
   exact zL
  ·intros
   unfold impl_Trace.l0
   have mo0:=@impl_copyHarts.mono
   have mo1:=@impl_eventOf.mono
   have mo2:=@impl_goes.mono
   have mo3:=@impl_memOk.mono
   have mo4:=@impl_step.mono
   exact zL
  ·intros
   unfold impl_Trace.j2
   have mo0:=@impl_copyHarts.mono
   have mo1:=@impl_eventOf.mono
   have mo2:=@impl_goes.mono
   have mo3:=@impl_memOk.mono
   have mo4:=@impl_step.mono
   exact zL
theorem impl_Trace.mono: ∀a0 a1 a2 k,LeO (impl_Trace.f k a0 a1 a2) (impl_Trace.f (k+1) a0 a1 a2):=by
 intro a0 a1 a2 k
 obtain ⟨ih0,ih1,ih2⟩:=impl_Trace.mono_l k
 unfold impl_Trace.f
 have mo0:=@impl_copyHarts.mono
 have mo1:=@impl_eventOf.mono
 have mo2:=@impl_goes.mono
 have mo3:=@impl_memOk.mono
 have mo4:=@impl_step.mono
 exact zL
theorem impl_Trace.calls (k:Nat) (A0:Option Addr) (c0:Nat) (l0:List Int) (A1:Option Addr) (c1:Nat) (l1:List (S72)) (A2:Option Addr) (c2:Nat) (l2:List Int) (r:List (S74)) (w:World) (hr0:Kd.C (Kd.int .i64) w A0 l0.length l0) (hc0:l0.length≤c0) (hr1:Kd.C k72 w A1 l1.length l1) (hc1:l1.length≤c1) (hr2:Kd.C (Kd.int .i64) w A2 l2.length l2) (hc2:l2.length≤c2) (h:impl_Trace.f k l0 l1 l2=some r):
  Calls Try.prog 7 #[.slice A0 l0.length c0,.slice A1 l1.length c1,.slice A2 l2.length c2] w fun e w'=>∃v0_:Value,e= .returned (v0_)∧Kd.R k74 74 w' w.heap.size (fun _=>True) v0_ r∧Below w.heap.size w w':=by
 have hu72:=Try.underlying72
 have HR0:=zM hr0
 have HC0:=zM hc0
 clear hr0 hc0
 have HR1:=zM hr1
 have HC1:=zM hc1
 clear hr1 hc1
 have HR2:=zM hr2
 have HC2:=zM hc2
 clear hr2 hc2
 have HB:=zM (Below.refl w.heap.size w)
 unfold impl_Trace.f at h
 have H:=h
 clear h
 replace H:=zY H
 obtain ⟨y448,Ny448,H⟩:=H
 have HC4:=zM H
 clear H
 go_enter Try.func7,Try.ntmps7
 go_upto_region 2 with (first|((with_reducible refine gate_dst (N:=10) rfl ?_);refine Kd.R_lit k74 _ 74 ?hg (N:=10) ?hd (xs:=([]:List (S74))) (inner:=[]) (ok:=fun _=>True) (okp:=fun _=>True) ?hr ?hp (fun _ hk=>hk) trivial (Below.refl _ _) (Nat.le_refl _) (by simp) ?_;(case hd=>rfl);(case hg=>rfl);(case hr=>exact zHH);(case hp=>exact (Reps.none _ _));intro v449 w5 ho6 hb hg_ hnew_;clear hg_ hnew_;(first|rw [←Ny448.1] at ho6|(simp only [Int.reduceToNat] at ho6;rw [←Ny448.1] at ho6));have HO450:=zM (Kd.R_lower ho6 (below_size zB3));replace HB:=zM (below_step zB3 hb);clear hb ho6))
 (try simp only [Act.put,List.setIfInBounds_toArray,List.set_cons_zero,List.set_cons_succ])
 go_cut [18] (fun v18 wc=>∃(kq:Nat) (x18_3:Bool),v18= .bool x18_3∧Aside0 (impl_Trace.j0 kq l0 l1 l2 y448 x18_3=some r)∧Aside0 (kq≤k)∧Aside0 (Kd.R k74 74 wc w.heap.size (fun _=>True) v449 y448)∧Aside0 (Below w.heap.size w wc))
 case first=>
  have H:=HC4.1
  clear HC4
  by_cases c7:(l2.length:Int)>2000
  ·rw [if_pos c7] at H
   have c7b0:=decide_eq_true c7
   have c7b1:decide (2000<l2.length)=true:=decide_eq_true (by omega)
   clear c7
   (first|rw [c7b0]|(simp only [i64_w,i32_w];rw [c7b0])|skip)
   have H':=zM H
   clear H
   go_wp2
   go_meet
   case rel=>exact ⟨_,(true),zJJ,H',⟨by first|omega|exact Nat.le_refl _⟩,⟨zR HO450.1⟩,⟨zB3⟩⟩
  rw [if_neg c7] at H
  have c7b0:=decide_eq_false c7
  have c7b1:decide (2000<l2.length)=false:=decide_eq_false (by omega)
  clear c7
  (first|rw [c7b0]|(simp only [i64_w,i32_w];rw [c7b0])|skip)
  replace H:=zO H
  obtain ⟨t451,A8,H⟩:=H
  have H':=zM H
  clear H
  go_wp2_with (first|(go_at_call 34;(with_reducible refine (impl_memOk.calls k _ _ l0 t451 _ ?side1 ?side2 A8.1).mono ?_);(case side1=>exact zC (Kd.C_below HR0.1 HB.1));(case side2=>exact HC0.1);rintro e w' ⟨rfl,⟨nd,rfl⟩⟩))
  go_meet
  case rel=>exact ⟨_,(!t451),zJJ,H',⟨by first|omega|exact Nat.le_refl _⟩,⟨zR HO450.1⟩,⟨zB3⟩⟩
 case rest=>
  clear HC4
  obtain ⟨kq,x18_3,rfl,HA,HJ3,HO_7,HB⟩:=hcut
  cases kq with
  |zero=>exact absurd HA.1 (by simp [impl_Trace.j0])
  |succ kj3=>
   have H:=HA.1
   clear HA
   simp only [impl_Trace.j0] at H
   by_cases c9:x18_3=true
   ·subst c9
    rw [if_pos rfl] at H
    obtain rfl:=Option.some.inj H
    go_wp2
    go_ret
    exact ⟨_,zE,zR HO_7.1,zB3⟩
   replace c9:=Bool.eq_false_iff.mpr c9
   subst c9
   rw [if_neg zF] at H
   replace H:=zO H
   obtain ⟨t452,A10,H⟩:=H
   replace H:=zO H
   obtain ⟨t455,A11,H⟩:=H
   have H':=zM H
   clear H
   go_wp2_with (first|((with_reducible refine zG Try.func35 21 #[.slice A0 l0.length c0] ?_);(with_reducible refine (slices_Clone_int_int.calls _ _ l0 t452 _ ?side1 ?side2 A10.1).mono ?_);(case side1=>exact zC (Kd.C_below HR0.1 HB.1));(case side2=>exact HC0.1);rintro e w12 ⟨v453,rfl,ho0,hb⟩;refine ⟨_,rfl,?_⟩;replace HO_7:=zM (Kd.R_below (zR HO_7.1) hb);have HO454:=zM (Kd.R_lower ho0 (below_size zB3));replace HB:=zM (below_step zB3 hb);clear hb ho0)|((with_reducible refine zG Try.func36 23 #[.slice A1 l1.length c1] ?_);(with_reducible refine (impl_copyHarts.calls kj3 _ _ l1 t455 _ ?side1 ?side2 A11.1).mono ?_);(case side1=>exact zC (Kd.C_below HR1.1 HB.1));(case side2=>exact HC1.1);rintro e w13 ⟨v456,rfl,ho0,hb⟩;refine ⟨_,rfl,?_⟩;replace HO_7:=zM (Kd.R_below (zR HO_7.1) hb);have HO457:=zM (Kd.S_lower (Kd.S_new' ho0 (Kd.R_lt (zR HO454.1))) (below_size zB3));replace HO454:=zM (Kd.R_below (zR HO454.1) hb);replace HB:=zM (below_step zB3 hb);clear hb ho0))
   go_loopg [7,26] kj3 (fun kq v7 v26 w'=>∃(x0_2:List Int) (x1_2:List (S72)) (x7_2:List (S74)) (x26_2:Int),v26= .int .i64 x26_2∧Aside0 (impl_Trace.l0 kq x0_2 x1_2 x7_2 l2 (l2.length:Int) x26_2=some r)∧Aside0 (kq≤kj3)∧Aside0 (Kd.R (Kd.int .i64) 3 w' w.heap.size (fun _=>True) v453 x0_2)∧Aside0 (Kd.S k72 72 w' w.heap.size (fun k_=>some k_≠(v453:Value).ownBlock) v456 x1_2)∧Aside0 (Kd.R k74 74 w' w.heap.size (fun _=>True) v7 x7_2)∧Aside0 (Below w.heap.size w w'))
   case atStart=>exact ⟨(t452),(t455),(y448),(0),zJJ,H',⟨Nat.le_refl _⟩,⟨zR HO454.1⟩,⟨by refine zrS ?_;exact Kd.S_mono HO457.1 (fun _ hk=>hk.2)⟩,⟨zR HO_7.1⟩,⟨zB3⟩⟩
   case round=>
    clear H'
    obtain ⟨x0_2,x1_2,x7_2,x26_2,rfl,HA,HK2,HO_0,HO_1,HO_7,HB⟩:=hrel
    cases gk with
    |zero=>exact absurd HA.1 (by simp [impl_Trace.l0])
    |succ k2=>
     have H:=HA.1
     clear HA
     simp only [impl_Trace.l0] at H
     by_cases c14:x26_2<(l2.length:Int)
     rotate_left
     ·rw [if_neg c14] at H
      have c14b0:=decide_eq_false c14
      clear c14
      obtain rfl:=Option.some.inj H
      go_wp2
      go_ret
      exact ⟨_,zE,zR HO_7.1,zB3⟩
     rw [if_pos c14] at H
     have c14b0:=decide_eq_true c14
     clear c14
     replace H:=zIt H
     obtain ⟨c15b0,H⟩:=H
     replace H:=zIt H
     obtain ⟨c16b0,H⟩:=H
     have HC17:=zM H
     clear H
     obtain ⟨p458,q458,ad458,e458,hx458_0⟩:=zRd (Kd.at_int HR2.1 x26_2)
     cases e458
     replace hx458_0:=zHx HB.1 hx458_0
     go_upto_region 9 with (fail)
     go_cut [41] (fun v41 wc=>∃(kq:Nat) (x41_16:Bool),v41= .bool x41_16∧Aside0 (impl_Trace.j2 kq x0_2 x1_2 x7_2 (rd l2 x26_2) l2 (l2.length:Int) x26_2 x41_16=some r)∧Aside0 (kq≤k2)∧Aside0 (Kd.R (Kd.int .i64) 3 wc w.heap.size (fun _=>True) v453 x0_2)∧Aside0 (Kd.S k72 72 wc w.heap.size (fun k_=>some k_≠(v453:Value).ownBlock) v456 x1_2)∧Aside0 (Kd.R k74 74 wc w.heap.size (fun _=>True) u7 x7_2)∧Aside0 (Below w.heap.size w wc))
     case first=>
      have H:=HC17.1
      clear HC17
      replace H:=zO H
      obtain ⟨t459,A18,H⟩:=H
      by_cases c19:t459=true
      rotate_left
      ·replace c19:=Bool.eq_false_iff.mpr c19
       subst c19
       rw [if_neg zF] at H
       have H':=zM H
       clear H
       obtain ⟨Ao25,co25,eo25⟩:=Kd.S_slice HO_1.1
       subst eo25
       go_wp2_with (first|((with_reducible refine zG Try.func37 34 #[.int .i64 (rd l2 x26_2),.int .i64 0,.int .i64 (wrap64 ((x1_2.length:Int)-1))] ?_);(with_reducible refine (impl_from.calls (rd l2 x26_2) 0 (wrap64 ((x1_2.length:Int)-1)) false _ A18.1).mono ?_);rintro e w' ⟨rfl,⟨nd,rfl⟩⟩;refine ⟨_,rfl,?_⟩))
       go_meet
       case rel=>exact ⟨_,(false),zJJ,H',⟨by have:=HJ3.1;have:=HK2.1;first|omega|exact Nat.le_refl _⟩,⟨zR HO_0.1⟩,⟨zS HO_1.1⟩,⟨zR HO_7.1⟩,⟨zB3⟩⟩
      subst c19
      rw [if_pos rfl] at H
      replace H:=zIt H
      obtain ⟨c20b0,H⟩:=H
      (first|rw [c20b0]|(simp only [i64_w,i32_w];rw [c20b0])|skip)
      replace H:=zIt H
      obtain ⟨c21b0,H⟩:=H
      replace H:=zO H
      obtain ⟨t461,A22,H⟩:=H
      have H':=zM H
      clear H
      obtain ⟨Ao23,co23,eo23⟩:=Kd.S_slice HO_1.1
      subst eo23
      go_wp2_with (first|((with_reducible refine zG Try.func37 34 #[.int .i64 (rd l2 x26_2),.int .i64 0,.int .i64 (wrap64 ((x1_2.length:Int)-1))] ?_);(with_reducible refine (impl_from.calls (rd l2 x26_2) 0 (wrap64 ((x1_2.length:Int)-1)) true _ A18.1).mono ?_);rintro e w' ⟨rfl,⟨nd,rfl⟩⟩;refine ⟨_,rfl,?_⟩;obtain ⟨p460,q460,ad460,A460_0,c460_0,e460,hx460_0,hx460_1,hx460_2,hl460_0,hi460_0⟩:=zRd (at_T72 (Kd.S_reads' HO_1.1).2.2 (rd l2 x26_2));cases e460;obtain ⟨ce460,hce460,hMe460,hcc460⟩:=Kd.S_get HO_1.1 z72 (rd l2 x26_2) zA (by first|exact zA|(have e_:=(Kd.S_reads' HO_1.1).1;omega));obtain ⟨ve460_0,rfl,ge460_0⟩:=k72_openM hMe460;have hv460_0:=hcc460 0 _ rfl;rw [Nat.add_zero] at hv460_0;replace hv460_0:=Option.some.inj (hv460_0.symm.trans hx460_0);rw [hv460_0] at ge460_0;have HL460_0:=zM (show Kd.R (Kd.int .i64) 3 _ _ _ _ ((rd_T72 x1_2 (rd l2 x26_2)).f0) from ge460_0);clear hv460_0 ge460_0;clear hcc460 hce460;have HR460_0:=zM hi460_0;have HC460_0:=zM hl460_0;clear hi460_0 hl460_0)|(go_at_call 38;(with_reducible refine (impl_goes.calls k2 _ _ ((rd_T72 x1_2 (rd l2 x26_2)).f0) ((rd_T72 x1_2 (rd l2 x26_2)).f1) ((rd_T72 x1_2 (rd l2 x26_2)).f2) t461 _ ?side1 ?side2 A22.1).mono ?_);(case side1=>exact zC HR460_0.1);(case side2=>exact HC460_0.1);rintro e w24 ⟨rfl,hb⟩;replace HO_0:=zM (Kd.R_below (zR HO_0.1) hb);replace HO_1:=zM (Kd.S_below (zS HO_1.1) hb);replace HO_7:=zM (Kd.R_below (zR HO_7.1) hb);replace HL460_0:=zM (Kd.R_below (zR HL460_0.1) hb);replace HR460_0:=zM (Kd.C_below (zC HR460_0.1) hb);replace HB:=zM (below_step zB3 hb);clear hb))
      go_meet
      case rel=>exact ⟨_,(t461),zJJ,H',⟨by have:=HJ3.1;have:=HK2.1;first|omega|exact Nat.le_refl _⟩,⟨zR HO_0.1⟩,⟨zS HO_1.1⟩,⟨zR HO_7.1⟩,⟨zB3⟩⟩
     case rest=>
      clear HC17
      obtain ⟨kq,x41_16,rfl,HA,HJ16,HO_0,HO_1,HO_7,HB⟩:=hcut
      cases kq with
      |zero=>exact absurd HA.1 (by simp [impl_Trace.j2])
      |succ kj16=>
       have H:=HA.1
       clear HA
       simp only [impl_Trace.j2] at H
       by_cases c26:x41_16=true
       rotate_left
       ·replace c26:=Bool.eq_false_iff.mpr c26
        subst c26
        rw [if_neg zF] at H
        have H':=zM H
        clear H
        go_wp2
        go_roundg kj16
        case measure=>have:=HJ3.1;have:=HK2.1;have:=HJ16.1;omega
        case rel=>exact ⟨(x0_2),(x1_2),(x7_2),(wrap64 (x26_2+1)),zJJ,H',⟨by have:=HJ3.1;have:=HK2.1;have:=HJ16.1;omega⟩,⟨zR HO_0.1⟩,⟨zS HO_1.1⟩,⟨zR HO_7.1⟩,⟨zB3⟩⟩
       subst c26
       rw [if_pos rfl] at H
       replace H:=zIt H
       obtain ⟨c27b0,H⟩:=H
       replace H:=zIt H
       obtain ⟨c28b0,H⟩:=H
       replace H:=zO H
       obtain ⟨⟨t463,t464,t465,t466,t467⟩,A29,H⟩:=H
       try dsimp only at H
       replace H:=zIn H
       obtain ⟨LMc30,H⟩:=H
       generalize hy468:((x7_2++[(⟨t463,t464,t465,t466,t467⟩:S74)]):List (S74))=y468 at H
       have Ny468:=zM hy468.symm
       clear hy468
       replace H:=zO H
       obtain ⟨⟨t472,t475,t476,t477⟩,A31,H⟩:=H
       try dsimp only at H
       generalize hy478:((x1_2.set ((rd l2 x26_2):Int).toNat (⟨t472,t475,t476⟩:S72)):List (S72))=y478 at H
       have Ny478:=zM hy478.symm
       clear hy478
       have H':=zM H
       clear H
       obtain ⟨Ao33,co33,eo33⟩:=Kd.S_slice HO_1.1
       subst eo33
       obtain ⟨p462,q462,ad462,A462_0,c462_0,e462,hx462_0,hx462_1,hx462_2,hl462_0,hi462_0⟩:=zRd (at_T72 (Kd.S_reads' HO_1.1).2.2 (rd l2 x26_2))
       cases e462
       obtain ⟨ce462,hce462,hMe462,hcc462⟩:=Kd.S_get HO_1.1 z72 (rd l2 x26_2) zA (by first|exact zA|(have e_:=(Kd.S_reads' HO_1.1).1;omega))
       obtain ⟨ve462_0,rfl,ge462_0⟩:=k72_openM hMe462
       have hv462_0:=hcc462 0 _ rfl
       rw [Nat.add_zero] at hv462_0
       replace hv462_0:=Option.some.inj (hv462_0.symm.trans hx462_0)
       rw [hv462_0] at ge462_0
       have HL462_0:=zM (show Kd.R (Kd.int .i64) 3 _ _ _ _ ((rd_T72 x1_2 (rd l2 x26_2)).f0) from ge462_0)
       clear hv462_0 ge462_0 hcc462 hce462
       have HR462_0:=zM hi462_0
       have HC462_0:=zM hl462_0
       clear hi462_0 hl462_0
       obtain ⟨Ao34,co34,eo34⟩:=Kd.R_slice HO_0.1
       subst eo34
       go_wp2_with (first|((with_reducible refine zG Try.func39 49 #[.slice Ao34 x0_2.length co34,.agg #[.slice A462_0 ((rd_T72 x1_2 (rd l2 x26_2)).f0).length c462_0,.int .i64 ((rd_T72 x1_2 (rd l2 x26_2)).f1),.int .i64 ((rd_T72 x1_2 (rd l2 x26_2)).f2)],.int .i64 (rd l2 x26_2)] ?_);(with_reducible refine (impl_eventOf.calls kj16 _ _ x0_2 _ _ ((rd_T72 x1_2 (rd l2 x26_2)).f0) ((rd_T72 x1_2 (rd l2 x26_2)).f1) ((rd_T72 x1_2 (rd l2 x26_2)).f2) (rd l2 x26_2) t463 t464 t465 t466 t467 _ ?side1 ?side2 ?side3 ?side4 A29.1).mono ?_);(case side1=>exact zC (Kd.R_reads' HO_0.1).2.2);(case side2=>exact (Kd.R_reads' HO_0.1).2.1);(case side3=>exact zC HR462_0.1);(case side4=>exact HC462_0.1);rintro e w35 ⟨rfl,hb⟩;refine ⟨_,rfl,?_⟩;replace HO_0:=zM (Kd.R_below (zR HO_0.1) hb);replace HO_1:=zM (Kd.S_below (zS HO_1.1) hb);replace HO_7:=zM (Kd.R_below (zR HO_7.1) hb);replace HL462_0:=zM (Kd.R_below (zR HL462_0.1) hb);replace HR462_0:=zM (Kd.C_below (zC HR462_0.1) hb);replace HB:=zM (below_step zB3 hb);clear hb)|((with_reducible refine gate_builtin (b:= .append) (xs:=#[.tmp 42,.tmp 50]) rfl ?_);at_builtin;refine Kd.R_append k74 (w0:=w) w.heap.size rfl (.tmp 42) (.tmp 50) 28 74 (.agg #[(.int .i64 0),(.int .i64 0),(.int .i64 0),(.int .i64 0),(.int .i64 0)]) 40 rfl Try.underlying28 info74 rfl (by decide) (by omega) u7 x7_2 (⟨t463,t464,t465,t466,t467⟩:S74) [.int .i64 t463,.int .i64 t464,.int .i64 t465,.int .i64 t466,.int .i64 t467] (fun _=>True) (fun _=>False) rfl rfl ?aP (fun _ hk=>hk.elim) ?aF ?aO ?aB ?aS ?aL ?_;(case aP=>exact k74_mkM _ _ _ (⟨t463,t464,t465,t466,t467⟩:S74));(case aB=>exact zB3);(case aF=>exact (fun _ _=>trivial));(case aO=>exact (zR HO_7.1));(case aS=>exact (below_size zB3));(case aL=>have:=LMc30.out;omega);intro v469 w36 ho hb hg hat;rw [←Ny468.1] at ho;replace HO_0:=zM (Kd.R_over' (zR HO_0.1) (Kd.R_typed (zR HO_7.1)) (by decide) hg);replace HO_1:=zM (Kd.S_over' (zS HO_1.1) (Kd.R_typed (zR HO_7.1)) (by decide) hg);replace HL462_0:=zM (Kd.R_over' (zR HL462_0.1) (Kd.R_typed (zR HO_7.1)) (by decide) hg);replace HB:=zM hb;have HO470:=zM ho;clear HO_7;clear ho hb hg hat;have p471:0≤((rd l2 x26_2):Int):=zA;have q471:(rd l2 x26_2)<(x1_2.length:Int):=zA;obtain ⟨ad471,A471_0,c471_0,e471,hx471_0,hx471_1,hx471_2,hl471_0,hi471_0⟩:=at_T72 (Kd.S_reads' HO_1.1).2.2 (rd l2 x26_2) p471 q471;obtain rfl:ad462=ad471:=(by injection e471);obtain ⟨ce471,hce471,hMe471,hcc471⟩:=Kd.S_get HO_1.1 z72 (rd l2 x26_2) p471 (by first|exact q471|exact zA|(have e_:=(Kd.S_reads' HO_1.1).1;omega));obtain ⟨ve471_0,rfl,ge471_0⟩:=k72_openM hMe471;have hv471_0:=hcc471 0 _ rfl;rw [Nat.add_zero] at hv471_0;replace hv471_0:=Option.some.inj (hv471_0.symm.trans hx471_0);rw [hv471_0] at ge471_0;have HL471_0:=zM (show Kd.R (Kd.int .i64) 3 _ _ _ _ ((rd_T72 x1_2 (rd l2 x26_2)).f0) from ge471_0);clear hv471_0 ge471_0;clear hcc471 hce471;have HR471_0:=zM hi471_0;have HC471_0:=zM hl471_0;clear hi471_0 hl471_0;replace p471:=eq_true p471;replace q471:=eq_true q471)|((with_reducible refine zG Try.func40 59 #[.slice Ao34 x0_2.length co34,.agg #[.slice A471_0 ((rd_T72 x1_2 (rd l2 x26_2)).f0).length c471_0,.int .i64 ((rd_T72 x1_2 (rd l2 x26_2)).f1),.int .i64 ((rd_T72 x1_2 (rd l2 x26_2)).f2)]] ?_);(with_reducible refine (impl_step.calls kj16 (fun k_=>some k_=(.slice Ao34 x0_2.length co34:Value).ownBlock) (.slice Ao34 x0_2.length co34) x0_2 _ _ ((rd_T72 x1_2 (rd l2 x26_2)).f0) ((rd_T72 x1_2 (rd l2 x26_2)).f1) ((rd_T72 x1_2 (rd l2 x26_2)).f2) t472 t475 t476 t477 w _ ?side1 ?side2 ?side3 ?side4 A31.1).mono ?_);(case side1=>exact zB3);(case side2=>exact Kd.R_tight rfl HO_0.1);(case side3=>exact Kd.C_kept_own (HL471_0.1) (fun k_ hk_ hs_=>(hk_.1) hs_));(case side4=>exact HC471_0.1);rintro e w37 ⟨v473,rfl,ho0,hy0,hb,hkp⟩;refine ⟨_,rfl,?_⟩;replace HO_1:=zM (Kd.S_mono (ok':=fun k_=>some k_≠(.slice Ao34 x0_2.length co34:Value).ownBlock∧some k_≠(v473:Value).ownBlock) (Kd.S_keptB (HO_1.1) hkp (fun k_ hk_ hs_=>(hk_) hs_)) (fun k_ hk_=>⟨hk_.1,fun e_=>Or.elim (ho0.1 k_ e_.symm).1 (fun hs_=>hk_.2.1 hs_) (fun hn_=>Nat.not_le.2 hk_.2.2 hn_)⟩));replace HO470:=zM (Kd.R_mono (ok':=fun k_=>True) (Kd.R_keptB ((Kd.R_apart' HO470.1 (Kd.R_typed HO_0.1) (by decide))) hkp (fun k_ hk_ hs_=>(hk_.2) hs_)) (fun k_ hk_=>trivial));replace HO_0:=zM (Kd.R_reok rfl hy0 (fun k_ e_=>HO_0.1.1 k_ e_));have HO474:=zM (Kd.R_mono (ok':=fun k_=>some k_≠(.slice Ao34 x0_2.length co34:Value).ownBlock) ho0 (fun k_ hk_=>hk_.2));replace HB:=zM hb;clear HL462_0 HL471_0;clear hb hkp ho0 hy0;have p32:0≤((rd l2 x26_2):Int):=zA;have q32:((rd l2 x26_2):Int)<((x1_2.length:Int):Int):=zA;obtain ⟨go32,co32,eo32,gb32,gl32,cl32,HG32⟩:=Kd.S_form HO_1.1 (by omega);(first|cases eo32|(injection eo32 with ea_ en_ ec_;(first|subst ea_|(injection ea_ with ea_;subst ea_));subst ec_;clear en_));have GB32:=zM gb32;have GG32:=zM HG32;clear gb32 gl32 HG32;(first|simp only [add_plain] at hx462_0|skip);(first|simp only [add_plain] at hx462_1|skip);(first|simp only [add_plain] at hx462_2|skip);(first|simp only [add_plain] at hx471_0|skip);(first|simp only [add_plain] at hx471_1|skip);(first|simp only [add_plain] at hx471_2|skip);obtain ⟨_,ce32,hcl32,hM32,hcc32,hfr32,_,_⟩:=Kd.S_elem HO_1.1 z72 ((rd l2 x26_2):Int) p32 q32;obtain ⟨ve32_0,rfl,ge32_0⟩:=k72_openM hM32;have hx32_0:w37.cell? ⟨go32,((rd l2 x26_2):Int).toNat*3,none⟩=some (ve32_0):=hcc32 0 _ rfl;have hx32_1:w37.cell? ⟨go32,((rd l2 x26_2):Int).toNat*3+1,none⟩=some (.int .i64 ((rd_T72 x1_2 (rd l2 x26_2)).f1)):=hcc32 1 _ rfl;have hx32_2:w37.cell? ⟨go32,((rd l2 x26_2):Int).toNat*3+2,none⟩=some (.int .i64 ((rd_T72 x1_2 (rd l2 x26_2)).f2)):=hcc32 2 _ rfl;have hf32_0:w37.frozen? ⟨go32,((rd l2 x26_2):Int).toNat*3,none⟩=false:=hfr32 0;have hf32_1:w37.frozen? ⟨go32,((rd l2 x26_2):Int).toNat*3+1,none⟩=false:=hfr32 1;have hf32_2:w37.frozen? ⟨go32,((rd l2 x26_2):Int).toNat*3+2,none⟩=false:=hfr32 2;clear hcl32 hcc32 hfr32 hM32;replace p32:=eq_true p32;replace q32:=eq_true q32;obtain ⟨Ao38,co38,eo38⟩:=Kd.R_slice HO474.1;subst eo38;have HX39:=zM (show Kd.S k72 72 w37 w.heap.size (fun k_=>((fun k_=>some k_≠(.slice Ao34 x0_2.length co34:Value).ownBlock)) k_∧¬((fun k_=>some k_=(.slice Ao38 t472.length co38:Value).ownBlock)) k_) (.slice (some ⟨go32,0,none⟩) x1_2.length co33) x1_2 from (by refine zrS ?_;exact Kd.S_mono HO_1.1 (fun k_ hk=>⟨hk.1,fun e_=>hk.2 e_⟩)));obtain ⟨oki39,ce39,hcl39,hM39,hcc39,hfr39,hoki39,hH39⟩:=Kd.S_elem HX39.out z72 ((rd l2 x26_2):Int) zA (by have h_:((rd l2 x26_2):Int)<((x1_2.length:Int):Int):=zA;first|exact h_|(have e_:=(Kd.S_reads' HO_1.1).1;omega)|simpa using h_);obtain ⟨ve39_0,rfl,ge39_0⟩:=k72_openM hM39;have HP39:=Kd.S_seg hH39 zA (by have h_:((rd l2 x26_2):Int)<((x1_2.length:Int):Int):=zA;first|exact h_|(have e_:=(Kd.S_reads' HO_1.1).1;omega)|simpa using h_) (seg:=[.slice Ao38 t472.length co38,.int .i64 t475,.int .i64 t476]) (j:=0) (show 3≤3 from by decide) (x':=(⟨t472,t475,t476⟩:S72)) (k72_mkM _ _ _ (⟨t472,t475,t476⟩:S72) (Kd.R_mono (Kd.R_tight rfl (Kd.R_mono (ok':=fun k_=>((fun k_=>some k_≠(.slice Ao34 x0_2.length co34:Value).ownBlock)) k_∧k_≠go32) (Kd.R_apart' (HO474.1) (Kd.S_typed HO_1.1) (by decide)) (fun k_ hk=>⟨hk.1,fun e_=>(hk.2) (by rw [e_];rfl)⟩))) (fun _ h_=>Or.inr (h_)))) (fun _ hk=>hk) (fun k_ hk_=>((Kd.R_mono (ok':=fun k_=>((fun k_=>some k_≠(.slice Ao34 x0_2.length co34:Value).ownBlock)) k_∧k_≠go32) (Kd.R_apart' (HO474.1) (Kd.S_typed HO_1.1) (by decide)) (fun k_ hk=>⟨hk.1,fun e_=>(hk.2) (by rw [e_];rfl)⟩))).1 k_ hk_.symm);have hx39_0:=hcc39 0 _ rfl;(try simp only [show (k72).sz=3 from rfl,Nat.mul_one,Nat.add_zero] at hx39_0);have hf39_0:=hfr39 0;(try simp only [show (k72).sz=3 from rfl,Nat.mul_one,Nat.add_zero] at hf39_0);have hx39_1:=hcc39 1 _ rfl;(try simp only [show (k72).sz=3 from rfl,Nat.mul_one,Nat.add_zero] at hx39_1);have hf39_1:=hfr39 1;(try simp only [show (k72).sz=3 from rfl,Nat.mul_one,Nat.add_zero] at hf39_1);have hx39_2:=hcc39 2 _ rfl;(try simp only [show (k72).sz=3 from rfl,Nat.mul_one,Nat.add_zero] at hx39_2);have hf39_2:=hfr39 2;(try simp only [show (k72).sz=3 from rfl,Nat.mul_one,Nat.add_zero] at hf39_2);clear hcl39 hcc39 hfr39 hM39 hoki39 hH39)|((with_reducible refine gate_store (t:=72) (p:=60) rfl ?_);refine store_event (t:=72) (p:=60) (v:=?vo_w40) (w1:=(((w37.setCell ⟨go32,((rd l2 x26_2):Int).toNat*3,none⟩ (.slice Ao38 t472.length co38)).setCell ⟨go32,((rd l2 x26_2):Int).toNat*3+1,none⟩ (.int .i64 t475)).setCell ⟨go32,((rd l2 x26_2):Int).toNat*3+2,none⟩ (.int .i64 t476))) ?hg ?ho ?hn ?hr ?_;(case ho=>rfl);(case hg=>rfl);(case hn=>rfl);(case hr=>exact zHH);intro w40 hw;have hg:w37.grownBy w40 (some go32):=(by rw [hw];exact HP39.2);have hp_:Kd.S k72 72 w40 w.heap.size (fun k_=>some k_≠(.slice Ao34 x0_2.length co34:Value).ownBlock) (.slice (some ⟨go32,0,none⟩) x1_2.length co33) y478:=(by rw [hw,Ny478.1];exact HP39.1);clear HP39;replace HO_0:=zM (Kd.R_over' (v:=(.slice (some ⟨go32,0,none⟩) x1_2.length co33)) (zR HO_0.1) (Kd.S_typed HO_1.1) (by decide) hg);replace HO470:=zM (Kd.R_over' (v:=(.slice (some ⟨go32,0,none⟩) x1_2.length co33)) (zR HO470.1) (Kd.S_typed HO_1.1) (by decide) hg);replace HO_1:=zM hp_;replace HB:=zM ((by rw [hw];exact below_set (below_set (below_set (HB.1) GB32.1) GB32.1) GB32.1:Below w.heap.size w w40));clear HO474;clear hg hw hp_))
       go_roundg kj16
       case measure=>have:=HJ3.1;have:=HK2.1;have:=HJ16.1;omega
       case rel=>exact ⟨(t477),(y478),(y468),(wrap64 (x26_2+1)),zJJ,H',⟨by have:=HJ3.1;have:=HK2.1;have:=HJ16.1;omega⟩,⟨zR HO_0.1⟩,⟨zS HO_1.1⟩,⟨zR HO470.1⟩,⟨zB3⟩⟩

end Go.Proofs.Ytaakcbgpmabaaaa.PFnSeen
