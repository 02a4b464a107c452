-- made by wip/tools/myprint.py out of the seat's translation
import Derived.Test.YtaakcbgpmabaaaaPFnSeenx0
import Derived.Test.YtaakcbgpmabaaaaPFnSeenx19
namespace Go.Proofs.Ytaakcbgpmabaaaa.PFnSeen
open Go.RowKit Go.Proofs.YtaakcbgpmabaaaaW.PrintWords Go.Proofs.YtaakcbgpmabaaaaW.PrintLast Go.Proofs.YtaakcbgpmabaaaaW.PrintMore
attribute [local go_sem] max2_int min2_int max_two min_two max_three min_three max_four min_four -- for this text's walks alone
set_option linter.unusedVariables false
set_option linter.unusedSimpArgs false
set_option maxHeartbeats 8000000
set_option maxRecDepth 100000

/-! ### impl_signs: function 51 -/
def impl_signs.l0:Nat→List ByteArray→List Int→Int→Int→Option (List ByteArray)
 |0,_,_,_,_=>none
 |k+1,x3,x8,x9,x10=>if x10<x9 then (if 0≤x10 then (if x10<(x8.length:Int) then (if (rd x8 x10)≥0 then ((impl_digits.f k (rd x8 x10)).bind fun t900=>(if x3.length<8796093022208 then (impl_signs.l0 k (x3++[t900]) x8 x9 (wrap64 (x10+1))) else (none))) else (if x3.length<8796093022208 then (impl_signs.l0 k (x3++[(⟨#[45]⟩:ByteArray)]) x8 x9 (wrap64 (x10+1))) else (none))) else (none)) else (none)) else (some x3)
def impl_signs.f (k:Nat) (l0:List Int):Option (List ByteArray):=impl_signs.l0 k (([]:List ByteArray)) l0 (l0.length:Int) 0
theorem impl_signs.mono_l: ∀k,(∀y0 y1 y2 y3,LeO (impl_signs.l0 k y0 y1 y2 y3) (impl_signs.l0 (k+1) y0 y1 y2 y3))
 |0=>fun _ _ _ _ r h=>by simp [impl_signs.l0] at h
 |k+1=>by
  have ih0:=impl_signs.mono_l k
  ·intros
   unfold impl_signs.l0
   have mo0:=@impl_digits.mono
   exact zL
theorem impl_signs.mono: ∀a0 k,LeO (impl_signs.f k a0) (impl_signs.f (k+1) a0):=by
 intro a0 k
 have ih0:=impl_signs.mono_l k
 unfold impl_signs.f
 have mo0:=@impl_digits.mono
 exact zL
theorem impl_signs.calls (k:Nat) (A0:Option Addr) (c0:Nat) (l0:List Int) (r:List ByteArray) (w:World) (hr0:Kd.C (Kd.int .i64) w A0 l0.length l0) (hc0:l0.length≤c0) (h:impl_signs.f k l0=some r):
  Calls Try.prog 51 #[.slice A0 l0.length c0] w fun e w'=>∃v0_:Value,e= .returned (v0_)∧Kd.R Kd.string 9 w' w.heap.size (fun _=>True) v0_ r∧Below w.heap.size w w':=by
 have HR0:=zM hr0
 have HC0:=zM hc0
 clear hr0 hc0
 have HB:=zM (Below.refl w.heap.size w)
 unfold impl_signs.f at h
 have H:=h
 clear h
 generalize hy896:((([]:List ByteArray)):List ByteArray)=y896 at H
 have Ny896:=zM hy896.symm
 clear hy896
 have H':=zM H
 clear H
 go_enter Try.func51,Try.ntmps51
 go_wp2_with (first|((with_reducible refine gate_dst (N:=7) rfl ?_);refine Kd.R_lit Kd.string _ 9 ?hg (N:=7) ?hd (xs:=([]:List ByteArray)) (inner:=[]) (ok:=fun _=>True) (okp:=fun _=>True) ?hr ?hp (fun _ hk=>hk) trivial (Below.refl _ _) (Nat.le_refl _) (by simp) ?_;(case hd=>rfl);(case hg=>rfl);(case hr=>exact zHH);(case hp=>exact (Reps.none _ _));intro v897 w2 ho3 hb hg_ hnew_;clear hg_ hnew_;(first|rw [←Ny896.1] at ho3|(simp only [Int.reduceToNat] at ho3;rw [←Ny896.1] at ho3));have HO898:=zM (Kd.R_lower ho3 (below_size zB3));replace HB:=zM (below_step zB3 hb);clear hb ho3))
 go_loopg [3,10] k (fun kq v3 v10 w'=>∃(x3_1:List ByteArray) (x10_1:Int),v10= .int .i64 x10_1∧Aside0 (impl_signs.l0 kq x3_1 l0 (l0.length:Int) x10_1=some r)∧Aside0 (kq≤k)∧Aside0 (Kd.R Kd.string 9 w' w.heap.size (fun _=>True) v3 x3_1)∧Aside0 (Below w.heap.size w w'))
 case atStart=>exact ⟨(y896),(0),zJJ,H',⟨Nat.le_refl _⟩,⟨zR HO898.1⟩,⟨zB3⟩⟩
 case round=>
  clear H'
  obtain ⟨x3_1,x10_1,rfl,HA,HK1,HO_3,HB⟩:=hrel
  cases gk with
  |zero=>exact absurd HA.1 (by simp [impl_signs.l0])
  |succ k1=>
   have H:=HA.1
   clear HA
   simp only [impl_signs.l0] at H
   by_cases c4:x10_1<(l0.length:Int)
   rotate_left
   ·rw [if_neg c4] at H
    have c4b0:=decide_eq_false c4
    clear c4
    obtain rfl:=Option.some.inj H
    go_wp2
    go_ret
    exact ⟨_,zE,zR HO_3.1,zB3⟩
   rw [if_pos c4] at H
   have c4b0:=decide_eq_true c4
   clear c4
   replace H:=zIt H
   obtain ⟨c5b0,H⟩:=H
   replace H:=zIt H
   obtain ⟨c6b0,H⟩:=H
   by_cases c7:(rd l0 x10_1)≥0
   rotate_left
   ·rw [if_neg c7] at H
    have c7b0:=decide_eq_false c7
    clear c7
    replace H:=zIn H
    obtain ⟨LMc11,H⟩:=H
    generalize hy904:((x3_1++[(⟨#[45]⟩:ByteArray)]):List ByteArray)=y904 at H
    have Ny904:=zM hy904.symm
    clear hy904
    have H':=zM H
    clear H
    obtain ⟨p899,q899,ad899,e899,hx899_0⟩:=zRd (Kd.at_int HR0.1 x10_1)
    cases e899
    replace hx899_0:=zHx HB.1 hx899_0
    go_wp2_with (first|((with_reducible refine gate_builtin (b:= .append) (xs:=#[.tmp 18,.tmp 20]) rfl ?_);at_builtin;refine Kd.R_append Kd.string (w0:=w) w.heap.size rfl (.tmp 18) (.tmp 20) 84 9 (.string ⟨#[]⟩) 16 rfl Try.underlying84 info9 rfl (by decide) (by omega) u3 x3_1 (⟨#[45]⟩:ByteArray) [.string (⟨#[45]⟩:ByteArray)] (fun _=>True) (fun _=>False) rfl rfl ?aP (fun _ hk=>hk.elim) ?aF ?aO ?aB ?aS ?aL ?_;(case aP=>exact rfl);(case aB=>exact zB3);(case aF=>exact (fun _ _=>trivial));(case aO=>exact (zR HO_3.1));(case aS=>exact (below_size zB3));(case aL=>have:=LMc11.out;omega);intro v905 w12 ho hb hg hat;rw [←Ny904.1] at ho;replace HB:=zM hb;have HO906:=zM ho;clear HO_3;clear ho hb hg hat))
    go_roundg k1
    case measure=>have:=HK1.1;omega
    case rel=>exact ⟨(y904),(wrap64 (x10_1+1)),zJJ,H',⟨by have:=HK1.1;omega⟩,⟨zR HO906.1⟩,⟨zB3⟩⟩
   rw [if_pos c7] at H
   have c7b0:=decide_eq_true c7
   clear c7
   replace H:=zO H
   obtain ⟨t900,A8,H⟩:=H
   replace H:=zIn H
   obtain ⟨LMc9,H⟩:=H
   generalize hy901:((x3_1++[t900]):List ByteArray)=y901 at H
   have Ny901:=zM hy901.symm
   clear hy901
   have H':=zM H
   clear H
   obtain ⟨p899,q899,ad899,e899,hx899_0⟩:=zRd (Kd.at_int HR0.1 x10_1)
   cases e899
   replace hx899_0:=zHx HB.1 hx899_0
   go_wp2_with (first|((with_reducible refine zG Try.func91 17 #[.int .i64 (rd l0 x10_1)] ?_);(with_reducible refine (impl_digits.calls k1 (rd l0 x10_1) t900 _ A8.1).mono ?_);rintro e w' ⟨rfl,⟨nd,rfl⟩⟩;refine ⟨_,rfl,?_⟩)|((with_reducible refine gate_builtin (b:= .append) (xs:=#[.tmp 18,.tmp 20]) rfl ?_);at_builtin;refine Kd.R_append Kd.string (w0:=w) w.heap.size rfl (.tmp 18) (.tmp 20) 84 9 (.string ⟨#[]⟩) 16 rfl Try.underlying84 info9 rfl (by decide) (by omega) u3 x3_1 t900 [.string t900] (fun _=>True) (fun _=>False) rfl rfl ?aP (fun _ hk=>hk.elim) ?aF ?aO ?aB ?aS ?aL ?_;(case aP=>exact rfl);(case aB=>exact zB3);(case aF=>exact (fun _ _=>trivial));(case aO=>exact (zR HO_3.1));(case aS=>exact (below_size zB3));(case aL=>have:=LMc9.out;omega);intro v902 w10 ho hb hg hat;rw [←Ny901.1] at ho;replace HB:=zM hb;have HO903:=zM ho;clear HO_3;clear ho hb hg hat))
   go_roundg k1
   case measure=>have:=HK1.1;omega
   case rel=>exact ⟨(y901),(wrap64 (x10_1+1)),zJJ,H',⟨by have:=HK1.1;omega⟩,⟨zR HO903.1⟩,⟨zB3⟩⟩

/-! ### impl_DidText: function 15 -/
def impl_DidText.f (k:Nat) (a0_0:Int) (a0_1:Int) (a0_2:Int):Option (ByteArray):=(impl_signs.f k (([a0_0,a0_1,a0_2]:List Int))).bind fun t911=>((strings_Join.f t911 (⟨#[58]⟩:ByteArray)).bind fun t914=>(some t914))
theorem impl_DidText.mono: ∀a0 a1 a2 k,LeO (impl_DidText.f k a0 a1 a2) (impl_DidText.f (k+1) a0 a1 a2):=by
 intro a0 a1 a2 k
 unfold impl_DidText.f
 have mo0:=@impl_signs.mono
 exact zL
theorem impl_DidText.calls (k:Nat) (a0_0:Int) (a0_1:Int) (a0_2:Int) (r:ByteArray) (w:World) (h:impl_DidText.f k a0_0 a0_1 a0_2=some r):
  Calls Try.prog 15 #[.agg #[.int .i64 a0_0,.int .i64 a0_1,.int .i64 a0_2]] w fun e w'=>e= .returned (.string r)∧Below w.heap.size w w':=by
 have hu37:=Try.underlying37
 have HB:=zM (Below.refl w.heap.size w)
 unfold impl_DidText.f at h
 have H:=h
 clear h
 generalize hy908:((([a0_0,a0_1,a0_2]:List Int)):List Int)=y908 at H
 have Ny908:=zM hy908.symm
 clear hy908
 replace H:=zO H
 obtain ⟨t911,A2,H⟩:=H
 replace H:=zO H
 obtain ⟨t914,A3,H⟩:=H
 obtain rfl:=Option.some.inj H
 go_enter Try.func15,Try.ntmps15
 go_wp2_with (first|((with_reducible refine zBx 1 37 #[.int .i64 a0_0,.int .i64 a0_1,.int .i64 a0_2] ?_);intro gb907 hg w4 hbox hb;have BK907:=zM hbox;have GW907:=zM (zW hg (below_size zB3));have GE907:=zM (zW hg (below_size zB3));replace HB:=zM (below_step zB3 hb);clear hb hbox hg;have hcz5:=zc_3 (w:=w4) BK907.1)|((with_reducible refine gate_dst (N:=9) rfl ?_);refine Kd.R_lit (Kd.int .i64) _ 3 ?hg (N:=9) ?hd (xs:=([a0_0,a0_1,a0_2]:List Int)) (inner:=[.int .i64 a0_0,.int .i64 a0_1,.int .i64 a0_2]) (ok:=fun _=>True) (okp:=fun _=>True) ?hr ?hp (fun _ hk=>hk) trivial (Below.refl _ _) (Nat.le_refl _) (by simp) ?_;(case hd=>rfl);(case hg=>rfl);(case hr=>exact zHH);(case hp=>exact (Reps.one (show Kd.M (Kd.int .i64) _ _ _ a0_0 [.int .i64 a0_0] from rfl) (Reps.one (show Kd.M (Kd.int .i64) _ _ _ a0_1 [.int .i64 a0_1] from rfl) (Reps.one (show Kd.M (Kd.int .i64) _ _ _ a0_2 [.int .i64 a0_2] from rfl) (Reps.none _ _)))));intro v909 w6 ho7 hb hg_ hnew_;clear hg_ hnew_;(first|rw [←Ny908.1] at ho7|(simp only [Int.reduceToNat] at ho7;rw [←Ny908.1] at ho7));have HO910:=zM (Kd.R_lower ho7 (below_size zB3));replace BK907:=zM (zb BK907.1 hb);replace HB:=zM (below_step zB3 hb);clear hb ho7;obtain ⟨Ao8,co8,eo8⟩:=Kd.R_slice HO910.1;subst eo8)|((with_reducible refine zG Try.func51 10 #[.slice Ao8 y908.length co8] ?_);(with_reducible refine (impl_signs.calls k _ _ y908 t911 _ ?side1 ?side2 A2.1).mono ?_);(case side1=>exact zC (Kd.R_reads' HO910.1).2.2);(case side2=>exact (Kd.R_reads' HO910.1).2.1);rintro e w9 ⟨v912,rfl,ho0,hb⟩;refine ⟨_,rfl,?_⟩;replace HO910:=zM (Kd.R_below (zR HO910.1) hb);have HO913:=zM (Kd.R_lower ho0 (below_size zB3));replace BK907:=zM (zb BK907.1 hb);replace HB:=zM (below_step zB3 hb);clear hb ho0;obtain ⟨Ao10,co10,eo10⟩:=Kd.R_slice HO913.1;subst eo10)|((with_reducible refine zG Try.func50 11 #[.slice Ao10 t911.length co10,.string (⟨#[58]⟩:ByteArray)] ?_);(with_reducible refine (strings_Join.calls _ _ t911 (⟨#[58]⟩:ByteArray) t914 _ ?side1 ?side2 A3.1).mono ?_);(case side1=>exact zC (Kd.R_reads' HO913.1).2.2);(case side2=>exact (Kd.R_reads' HO913.1).2.1);rintro e w11 ⟨rfl,hb⟩;refine ⟨_,rfl,?_⟩;replace HO910:=zM (Kd.R_below (zR HO910.1) hb);replace HO913:=zM (Kd.R_below (zR HO913.1) hb);replace BK907:=zM (zb BK907.1 hb);replace HB:=zM (below_step zB3 hb);clear hb))
 go_ret
 exact ⟨zE,zB3⟩

/-! ### spec_l16Digits: function 92 -/
def spec_l16Digits.l0:Nat→Int→ByteArray→Option (ByteArray)
 |0,_,_=>none
 |k+1,x0,x3=>if x0>0 then ((some (([(wrap64 (48+(Int.tmod x0 10))) % 256]:List Int):List Int)).bind fun y915=>(if (strOfNums y915).size+x3.size≤9223372036854775807 then (spec_l16Digits.l0 k (wrap64 (Int.tdiv x0 10)) ((strOfNums y915)++x3)) else (none))) else (some x3)
def spec_l16Digits.f (k:Nat) (a0:Int):Option (ByteArray):=if a0≤0 then (some (⟨#[48]⟩:ByteArray)) else (spec_l16Digits.l0 k a0 (⟨#[]⟩:ByteArray))
theorem spec_l16Digits.mono_l: ∀k,(∀y0 y1,LeO (spec_l16Digits.l0 k y0 y1) (spec_l16Digits.l0 (k+1) y0 y1))
 |0=>fun _ _ r h=>by simp [spec_l16Digits.l0] at h
 |k+1=>by
  have ih0:=spec_l16Digits.mono_l k
  ·intros
   unfold spec_l16Digits.l0
   exact zL
theorem spec_l16Digits.mono: ∀a0 k,LeO (spec_l16Digits.f k a0) (spec_l16Digits.f (k+1) a0):=by
 intro a0 k
 have ih0:=spec_l16Digits.mono_l k
 unfold spec_l16Digits.f
 exact zL
theorem spec_l16Digits.calls (k:Nat) (a0:Int) (r:ByteArray) (w:World) (h:spec_l16Digits.f k a0=some r):
  Calls Try.prog 92 #[.int .i64 a0] w fun e w'=>e= .returned (.string r)∧Below w.heap.size w w':=by
 have HB:=zM (Below.refl w.heap.size w)
 unfold spec_l16Digits.f at h
 have H:=h
 clear h
 by_cases c2:a0≤0
 ·rw [if_pos c2] at H
  have c2b0:=decide_eq_true c2
  clear c2
  obtain rfl:=Option.some.inj H
  go_enter Try.func92,Try.ntmps92
  go_wp2
  go_ret
  exact ⟨zE,zB3⟩
 rw [if_neg c2] at H
 have c2b0:=decide_eq_false c2
 clear c2
 have H':=zM H
 clear H
 go_enter Try.func92,Try.ntmps92
 go_wp2
 go_loopg [0,3] k (fun kq v0 v3 w'=>∃(x0_1:Int) (x3_1:ByteArray),v0= .int .i64 x0_1∧v3= .string x3_1∧Aside0 (spec_l16Digits.l0 kq x0_1 x3_1=some r)∧Aside0 (kq≤k)∧Aside0 (Below w.heap.size w w'))
 case atStart=>exact ⟨(a0),((⟨#[]⟩:ByteArray)),zJJ,zJJ,H',⟨Nat.le_refl _⟩,⟨zB3⟩⟩
 case round=>
  clear H'
  obtain ⟨x0_1,x3_1,rfl,rfl,HA,HK1,HB⟩:=hrel
  cases gk with
  |zero=>exact absurd HA.1 (by simp [spec_l16Digits.l0])
  |succ k1=>
   have H:=HA.1
   clear HA
   simp only [spec_l16Digits.l0] at H
   by_cases c3:x0_1>0
   rotate_left
   ·rw [if_neg c3] at H
    have c3b0:=decide_eq_false c3
    clear c3
    obtain rfl:=Option.some.inj H
    go_wp2
    go_ret
    exact ⟨zE,zB3⟩
   rw [if_pos c3] at H
   have c3b0:=decide_eq_true c3
   clear c3
   replace H:=zY H
   obtain ⟨y915,Ny915,H⟩:=H
   replace H:=zIp H
   obtain ⟨c4,H⟩:=H
   have c4b0:=eq_true c4
   have c4b1:decide ((strOfNums y915).size+x3_1.size≤9223372036854775807)=true:=decide_eq_true c4
   try have c4b2:(9223372036854775807<(strOfNums y915).size+x3_1.size)=False:=eq_false (Nat.not_lt.2 c4)
   have H':=zM H
   clear H
   go_wp2_with (first|((with_reducible refine gate_dst (N:=12) rfl ?_);refine Kd.R_lit (Kd.int .u8) _ 5 ?hg (N:=12) ?hd (xs:=([(wrap64 (48+(Int.tmod x0_1 10))) % 256]:List Int)) (inner:=[.int .u8 ((wrap64 (48+(Int.tmod x0_1 10))) % 256)]) (ok:=fun _=>True) (okp:=fun _=>True) ?hr ?hp (fun _ hk=>hk) trivial (Below.refl _ _) (Nat.le_refl _) (by simp) ?_;(case hd=>rfl);(case hg=>rfl);(case hr=>exact zHH);(case hp=>exact (Reps.one (show Kd.M (Kd.int .u8) _ _ _ ((wrap64 (48+(Int.tmod x0_1 10))) % 256) [.int .u8 ((wrap64 (48+(Int.tmod x0_1 10))) % 256)] from rfl) (Reps.none _ _)));intro v916 w5 ho6 hb hg_ hnew_;clear hg_ hnew_;(first|rw [←Ny915.1] at ho6|(simp only [Int.reduceToNat] at ho6;rw [←Ny915.1] at ho6));have HO917:=zM (Kd.R_lower ho6 (below_size zB3));replace HB:=zM (below_step zB3 hb);clear hb ho6;have hcv7:=own_string (P:=Try.prog) Try.underlying22 Try.underlying5 Try.underlying9 (Kd.own_of_R HO917.1)))
   go_roundg k1
   case measure=>have:=HK1.1;omega
   case rel=>exact ⟨(wrap64 (Int.tdiv x0_1 10)),((strOfNums y915)++x3_1),zJJ,zJJ,H',⟨by have:=HK1.1;omega⟩,⟨zB3⟩⟩

/-! ### spec_l18Num: function 52 -/
def spec_l18Num.f (k:Nat) (a0:Int):Option (ByteArray):=if a0<0 then (some (⟨#[45]⟩:ByteArray)) else ((spec_l16Digits.f k a0).bind fun t918=>(some t918))
theorem spec_l18Num.mono: ∀a0 k,LeO (spec_l18Num.f k a0) (spec_l18Num.f (k+1) a0):=by
 intro a0 k
 unfold spec_l18Num.f
 have mo0:=@spec_l16Digits.mono
 exact zL
theorem spec_l18Num.calls (k:Nat) (a0:Int) (r:ByteArray) (w:World) (h:spec_l18Num.f k a0=some r):
  Calls Try.prog 52 #[.int .i64 a0] w fun e w'=>e= .returned (.string r)∧Below w.heap.size w w':=by
 have HB:=zM (Below.refl w.heap.size w)
 unfold spec_l18Num.f at h
 have H:=h
 clear h
 by_cases c2:a0<0
 ·rw [if_pos c2] at H
  have c2b0:=decide_eq_true c2
  clear c2
  obtain rfl:=Option.some.inj H
  go_enter Try.func52,Try.ntmps52
  go_wp2
  go_ret
  exact ⟨zE,zB3⟩
 rw [if_neg c2] at H
 have c2b0:=decide_eq_false c2
 clear c2
 replace H:=zO H
 obtain ⟨t918,A3,H⟩:=H
 obtain rfl:=Option.some.inj H
 go_enter Try.func52,Try.ntmps52
 go_wp2_with (first|((with_reducible refine zG Try.func92 6 #[.int .i64 a0] ?_);(with_reducible refine (spec_l16Digits.calls k a0 t918 _ A3.1).mono ?_);rintro e w4 ⟨rfl,hb⟩;refine ⟨_,rfl,?_⟩;replace HB:=zM (below_step zB3 hb);clear hb))
 go_ret
 exact ⟨zE,zB3⟩

/-! ### spec_DidText: function 16 -/
def spec_DidText.f (k:Nat) (a0_0:Int) (a0_1:Int) (a0_2:Int):Option (ByteArray):=(spec_l18Num.f k a0_0).bind fun t920=>(if t920.size+1≤9223372036854775807 then ((spec_l18Num.f k a0_1).bind fun t921=>(if (t920++(⟨#[58]⟩:ByteArray)).size+t921.size≤9223372036854775807 then (if ((t920++(⟨#[58]⟩:ByteArray))++t921).size+1≤9223372036854775807 then ((spec_l18Num.f k a0_2).bind fun t922=>(if (((t920++(⟨#[58]⟩:ByteArray))++t921)++(⟨#[58]⟩:ByteArray)).size+t922.size≤9223372036854775807 then (some ((((t920++(⟨#[58]⟩:ByteArray))++t921)++(⟨#[58]⟩:ByteArray))++t922)) else (none))) else (none)) else (none))) else (none))
theorem spec_DidText.mono: ∀a0 a1 a2 k,LeO (spec_DidText.f k a0 a1 a2) (spec_DidText.f (k+1) a0 a1 a2):=by
 intro a0 a1 a2 k
 unfold spec_DidText.f
 have mo0:=@spec_l18Num.mono
 exact zL
def spec_DidText.T1:Bool×List (List Nat×List Nat):=(true,[([],[]),([0],[0]),([1],[1]),([2],[2]),([],[]),([4],[4]),([5,2],[5]),([3,6],[3,6]),([7],[7]),([],[]),([9],[9]),([10,6],[10]),([8,11],[8,11]),([12,11,0,1,2,3,4,5,6,7,8,9,10,11,12],[12])])
def spec_DidText.B1:List Nat:=[0,1,3,7,0,16,55,127,255,0,512,1655,4095,8191]
theorem spec_DidText.tab1:rtab .any (opsOf Try.f16 1)=spec_DidText.T1:=by kernel_rfl
theorem spec_DidText.bits1:waitsOk spec_DidText.T1.2 spec_DidText.B1=true:=by kernel_rfl
theorem spec_DidText.calls (k:Nat) (a0_0:Int) (a0_1:Int) (a0_2:Int) (r:ByteArray) (w:World) (h:spec_DidText.f k a0_0 a0_1 a0_2=some r):
  Calls Try.prog 16 #[.agg #[.int .i64 a0_0,.int .i64 a0_1,.int .i64 a0_2]] w fun e w'=>e= .returned (.string r)∧Below w.heap.size w w':=by
 have hu37:=Try.underlying37
 have HB:=zM (Below.refl w.heap.size w)
 unfold spec_DidText.f at h
 have H:=h
 clear h
 replace H:=zO H
 obtain ⟨t920,A2,H⟩:=H
 replace H:=zIp H
 obtain ⟨c3,H⟩:=H
 have c3b0:=eq_true c3
 have c3b1:decide (t920.size+1≤9223372036854775807)=true:=decide_eq_true c3
 try have c3b2:(9223372036854775807<t920.size+1)=False:=eq_false (Nat.not_lt.2 c3)
 replace H:=zO H
 obtain ⟨t921,A4,H⟩:=H
 replace H:=zIp H
 obtain ⟨c5,H⟩:=H
 have c5b0:=eq_true c5
 have c5b1:decide ((t920++(⟨#[58]⟩:ByteArray)).size+t921.size≤9223372036854775807)=true:=decide_eq_true c5
 try have c5b3:(9223372036854775807<t920.size+1+t921.size)=False:=eq_false (by have h_:=c5;simp only [ByteArray.size_append] at h_;exact Nat.not_lt.2 h_)
 try have c5b2:(9223372036854775807<(t920++(⟨#[58]⟩:ByteArray)).size+t921.size)=False:=eq_false (Nat.not_lt.2 c5)
 replace H:=zIp H
 obtain ⟨c6,H⟩:=H
 have c6b0:=eq_true c6
 have c6b1:decide (((t920++(⟨#[58]⟩:ByteArray))++t921).size+1≤9223372036854775807)=true:=decide_eq_true c6
 try have c6b3:(9223372036854775807<t920.size+1+t921.size+1)=False:=eq_false (by have h_:=c6;simp only [ByteArray.size_append] at h_;exact Nat.not_lt.2 h_)
 try have c6b2:(9223372036854775807<((t920++(⟨#[58]⟩:ByteArray))++t921).size+1)=False:=eq_false (Nat.not_lt.2 c6)
 replace H:=zO H
 obtain ⟨t922,A7,H⟩:=H
 replace H:=zIp H
 obtain ⟨c8,H⟩:=H
 have c8b0:=eq_true c8
 have c8b1:decide ((((t920++(⟨#[58]⟩:ByteArray))++t921)++(⟨#[58]⟩:ByteArray)).size+t922.size≤9223372036854775807)=true:=decide_eq_true c8
 try have c8b3:(9223372036854775807<t920.size+1+t921.size+1+t922.size)=False:=eq_false (by have h_:=c8;simp only [ByteArray.size_append] at h_;exact Nat.not_lt.2 h_)
 try have c8b2:(9223372036854775807<(((t920++(⟨#[58]⟩:ByteArray))++t921)++(⟨#[58]⟩:ByteArray)).size+t922.size)=False:=eq_false (Nat.not_lt.2 c8)
 obtain rfl:=Option.some.inj H
 go_enter Try.func16,Try.ntmps16
 try go_wp2_with (first|((with_reducible refine zBx 1 37 #[.int .i64 a0_0,.int .i64 a0_1,.int .i64 a0_2] ?_);intro gb919 hg w9 hbox hb;have BK919:=zM hbox;have GW919:=zM (zW hg (below_size zB3));have GE919:=zM (zW hg (below_size zB3));replace HB:=zM (below_step zB3 hb);clear hb hbox hg))
 replace BK919:=zM (blk_drew BK919.1)
 replace HB:=zM (below_drew1 HB.1)
 refine start_ (n:=14) (S:=fun w'=>w'.cell? ⟨gb919,0,none⟩=some (.int .i64 a0_0)∧w'.cell? ⟨gb919,1,none⟩=some (.int .i64 a0_1)∧w'.cell? ⟨gb919,2,none⟩=some (.int .i64 a0_2)) (ds:=[]) #[false,false,false,false,false,false,false,false,false,false,false,false,false,false] (by kernel_rfl) rfl rfl ⟨(blk_cell BK919.1 0).trans rfl,(blk_cell BK919.1 1).trans rfl,(blk_cell BK919.1 2).trans rfl⟩ (fun hHeld=>?_);refine with_tabW spec_DidText.tab1 spec_DidText.bits1 (fun HT_ HW_=>?_)
 generalize w9.drew=w10 at BK919 HB hHeld ⊢
 refine zPu 0 ?_
 refine zPu 4 ?_
 refine zPu 9 ?_
 refine zTk3 1 hHeld ?_
 refine zTk3 5 hHeld ?_
 refine zTk3 10 hHeld ?_
 refine zOn 2 (some 5) fun K hK=>?_
 refine zGs Try.func52 #[.int .i64 a0_0] ?_
 with_reducible refine (spec_l18Num.calls k a0_0 t920 _ A2.1).mono ?_
 rintro e w11 ⟨rfl,hb⟩
 refine ⟨_,rfl,?_⟩
 replace BK919:=zM (zb BK919.1 hb)
 replace HB:=zM (below_step zB3 hb)
 refine hK.out _ _ zCs fun hHeld=>?_
 clear hK K
 refine zNo ?_
 refine zPu 3 ?_
 refine zOn 6 (some 9) fun K hK=>?_
 refine zGs Try.func52 #[.int .i64 a0_1] ?_
 with_reducible refine (spec_l18Num.calls k a0_1 t921 _ A4.1).mono ?_
 rintro e w12 ⟨rfl,hb⟩
 refine ⟨_,rfl,?_⟩
 replace BK919:=zM (zb BK919.1 hb)
 replace HB:=zM (below_step zB3 hb)
 refine hK.out _ _ zCs fun hHeld=>?_
 clear hK K
 refine zNo ?_
 refine zPu 7 ?_
 refine zPu 8 ?_
 refine zOn 11 (some 14) fun K hK=>?_
 refine zGs Try.func52 #[.int .i64 a0_2] ?_
 with_reducible refine (spec_l18Num.calls k a0_2 t922 _ A7.1).mono ?_
 rintro e w13 ⟨rfl,hb⟩
 refine ⟨_,rfl,?_⟩
 replace BK919:=zM (zb BK919.1 hb)
 replace HB:=zM (below_step zB3 hb)
 refine hK.out _ _ zCs fun hHeld=>?_
 clear hK K
 refine zNo ?_
 refine zPu 12 ?_
 refine zPu 13 ?_
 refine done_ (done_of HT_.1 (by kernel_rfl)) ?_
 try go_wp2
 go_ret
 exact ⟨zE,zB3⟩

end Go.Proofs.Ytaakcbgpmabaaaa.PFnSeen
