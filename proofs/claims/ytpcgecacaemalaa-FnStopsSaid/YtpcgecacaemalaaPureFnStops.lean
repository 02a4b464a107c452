/- For all bytes: where a drawn run stops a hart is at one of the places, or one of the cells was written just then, and ahead of that none was: no conditions. -/
import Derived.Test.YtpcgecacaemalaaPFnStopsx23
namespace Go.Proofs.Ytpcgecacaemalaa.Pure
open Go.RowKit Go.Proofs.Ytpcgecacaemalaa.PFnStops Go.Proofs.YtpcgecacaemalaaW.PrintWords Go.Proofs.YtpcgecacaemalaaW.PrintLast
set_option linter.unusedVariables false
set_option linter.unusedSimpArgs false

theorem wrap_small {x:Int} (h0: -9223372036854775808≤x) (h:x≤9223372036854775807):wrap64 x=x:=by
 unfold wrap64;omega
theorem wrap_succ {i:Nat} (h:i<4611686018427387904):wrap64 ((i:Int)+1)=((i+1:Nat):Int):=by
 unfold wrap64;omega
theorem rd_nat (l:List Int) (i:Nat) (h:i<l.length):rd l (i:Int)=l[i]:=by
 unfold rd;simp [List.getD,h]
theorem rd_mem (l:List Int) (i:Nat) (h:i<l.length):rd l (i:Int)∈l:=by
 rw [rd_nat l i h];exact List.getElem_mem h
theorem for_st {σ ρ:Type} (n:Nat) (L:Nat→Nat→σ→Option ρ) (st:Nat→σ) (r:ρ) (hs: ∀k i,i<n→L (k+1) i (st i)=L k (i+1) (st (i+1))) (he: ∀k,L (k+1) n (st n)=some r):
  ∀(k i:Nat),i≤n→n<i+k→L k i (st i)=some r
 |0,i,hi,hk=>by omega
 |k+1,i,hi,hk=>by
  by_cases h:i<n
  ·rw [hs k i h];exact for_st n L st r hs he k (i+1) (by omega) (by omega)
  ·have:i=n:=by omega
   subst this;exact he k
theorem for_find {ρ:Type} (n:Nat) (L:Nat→Nat→Option ρ) (p:Nat→Prop) (b:Nat→ρ) (r:ρ) (hs: ∀k i,i<n→¬p i→L (k+1) i=L k (i+1)) (hb: ∀k i,i<n→p i→L (k+1) i=some (b i)) (he: ∀k,L (k+1) n=some r):
  ∀(k i:Nat),i≤n→n<i+k→(∃j,i≤j∧j<n∧p j∧(∀m,i≤m→m<j→¬p m)∧L k i=some (b j))∨(∀j,i≤j→j<n→¬p j)∧L k i=some r
 |0,i,hi,hk=>by omega
 |k+1,i,hi,hk=>by
  by_cases h:i<n
  ·by_cases hp:p i
   ·exact .inl ⟨i,Nat.le_refl _,h,hp,fun m h1 h2=>by omega,hb k i h hp⟩
   ·rw [hs k i h hp]
    rcases for_find n L p b r hs hb he k (i+1) (by omega) (by omega) with ⟨j,h1,h2,h3,h4,h5⟩|⟨h1,h2⟩
    ·refine .inl ⟨j,by omega,h2,h3,fun m hm1 hm2=>?_,h5⟩
     by_cases e:m=i
     ·subst e;exact hp
     ·exact h4 m (by omega) hm2
    ·refine .inr ⟨fun j hj1 hj2=>?_,h2⟩
     by_cases e:j=i
     ·subst e;exact hp
     ·exact h1 j (by omega) hj2
  ·have:i=n:=by omega
   subst this;exact .inr ⟨fun j h1 h2=>by omega,he k⟩
theorem for_all {n:Nat} {L:Nat→Nat→Option Bool} (p:Nat→Prop) (hs: ∀k i,i<n→p i→L (k+1) i=L k (i+1)) (hb: ∀k i,i<n→¬p i→L (k+1) i=some false) (c:Bool) (he: ∀k,L (k+1) n=some c) {q:Bool}
  (hq:q=true↔(∀j,j<n→p j)∧c=true) (k:Nat) (hk:n<k):L k 0=some q:=by
 rcases for_find n L (fun i=>¬p i) (fun _=>false) c (fun k i h hp=>hs k i h (Classical.not_not.1 hp)) (fun k i h hp=>hb k i h hp) he k 0 (Nat.zero_le _) (by omega) with ⟨j,_,h2,h3,_,h5⟩|⟨h1,h2⟩
 ·rw [h5];congr 1;symm
  rw [Bool.eq_false_iff];intro hh;exact h3 ((hq.1 hh).1 j h2)
 ·rw [h2];congr 1
  have: ∀j,j<n→p j:=fun j hj=>Classical.not_not.1 (h1 j (Nat.zero_le _) hj)
  rw [Bool.eq_iff_iff,hq];exact ⟨fun h=>⟨this,h⟩,fun h=>h.2⟩
theorem snoc_step {α:Type} (a:List α) (i:Nat) (hi:i<a.length):a.take i++[a[i]'hi]=a.take (i+1):=by
 rw [List.take_succ_eq_append_getElem hi]
theorem wraps_i64 (n:Int) (h0:0≤n) (h1:n<2 ^ 62):IntKind.i64.wrap n=n:=by rw [IntKind.wrap_i64];omega
theorem idx_any {n:Nat} (L:Nat→Nat→Option Int) (q:Nat→Bool) (hs: ∀k i,i<n→q i=false→L (k+1) i=L k (i+1)) (hb: ∀k i,i<n→q i=true→L (k+1) i=some (i:Int)) (he: ∀k,L (k+1) n=some (-1)) (r:Bool)
  (hr:r=true↔∃j,j<n∧q j=true) (k:Nat) (hk:n<k): ∃v,L k 0=some v∧decide (v≥0)=r:=by
 rcases for_find n L (fun i=>q i=true) (fun i=>(i:Int)) (-1) (fun k i h hp=>hs k i h (by simpa using hp)) hb he k 0 (Nat.zero_le _) (by omega) with ⟨j,_,h2,h3,_,h5⟩|⟨h1,h2⟩
 ·refine ⟨_,h5,?_⟩
  rw [decide_eq_true (by omega:(j:Int)≥0)];exact (hr.2 ⟨j,h2,h3⟩).symm
 ·refine ⟨_,h2,?_⟩
  rw [decide_eq_false (by omega: ¬(-1:Int)≥0)];symm;rw [Bool.eq_false_iff];intro hh
  obtain ⟨j,hj,hq⟩:=hr.1 hh
  exact h1 j (Nat.zero_le _) hj hq
def wordsB (l:List Int) (n:Int):Bool:=decide ((l.length:Int)=n)&&l.all (fun x=>decide (0≤x∧x≤65535))
theorem wordsB_mem {l:List Int} {n:Int} (h:wordsB l n=true) (x:Int) (hx:x∈l):0≤x∧x≤65535:=by
 unfold wordsB at h;rw [Bool.and_eq_true,List.all_eq_true] at h;exact of_decide_eq_true (h.2 x hx)
def hartB (regs:List Int) (pc st:Int):Bool:=wordsB regs 4&&(decide (0≤pc∧pc≤23)&&decide (0≤st∧st≤2))
theorem ite_some' (b c:Bool):(if b=true then some c else some false)=some (b&&c):=by cases b<;>rfl
theorem hartB_len {r:List Int} {p s:Int} (h:hartB r p s=true):r.length=4:=by
 unfold hartB wordsB at h;rw [Bool.and_eq_true,Bool.and_eq_true] at h;have:=of_decide_eq_true h.1.1;omega
theorem wordsB_24 {l:List Int} (h:wordsB l 24=true):l.length=24:=by unfold wordsB at h;rw [Bool.and_eq_true] at h;have:=of_decide_eq_true h.1;omega
theorem tmod_pos (n c:Int) (h:0≤n):Int.tmod n c=n % c:=Int.tmod_eq_emod_of_nonneg h
theorem tmod_neg (n c:Int) (h:n<0):Int.tmod n c= -((-n) % c):=by
 rw [←Int.tmod_eq_emod_of_nonneg (by omega:0≤ -n),Int.neg_tmod,Int.neg_neg]
theorem tdiv_pos (n c:Int) (h:0≤n):Int.tdiv n c=n / c:=Int.tdiv_eq_ediv_of_nonneg h
theorem tmod_up (n c:Int) (hc:0<c) (hb:c≤4294967296):Int.tmod (Int.tmod n c+c) c=n % c:=by
 have h1:=Int.emod_nonneg n (by omega:c≠0)
 have h2:=Int.emod_lt_of_pos n hc
 rcases Int.lt_or_le n 0 with h|h
 ·rw [tmod_neg n c h]
  have h3:=Int.emod_nonneg (-n) (by omega:c≠0)
  have h4:=Int.emod_lt_of_pos (-n) hc
  rw [tmod_pos _ _ (by omega),Int.add_emod_right,←Int.sub_emod_right]
  have:=Int.emod_add_mul_ediv (-n) c
  have e: -(-n % c)-c=n+c*((-n) / c-1):=by
   have:n= -(-n % c)-c*((-n) / c):=by omega
   rw [Int.mul_sub];omega
  rw [e,Int.add_mul_emod_self_left]
 ·rw [tmod_pos n c h,tmod_pos _ _ (by omega),Int.add_emod_right,Int.emod_emod_of_dvd _ (Int.dvd_refl c)]
theorem tmod_bd (n c:Int) (hc:0<c): -c<Int.tmod n c∧Int.tmod n c<c:=by
 rcases Int.lt_or_le n 0 with h|h
 ·rw [tmod_neg n c h]
  have h3:=Int.emod_nonneg (-n) (by omega:c≠0)
  have h4:=Int.emod_lt_of_pos (-n) hc
  omega
 ·rw [tmod_pos n c h]
  have h3:=Int.emod_nonneg n (by omega:c≠0)
  have h4:=Int.emod_lt_of_pos n hc
  omega
theorem l1In_eq (x lo hi:Int):spec_l1In.f x lo hi=some (decide (lo≤x∧x≤hi)):=by
 unfold spec_l1In.f
 by_cases h:x≥lo
 ·rw [if_pos h];have h':lo≤x:=h;simp [h']
 ·rw [if_neg h];have h': ¬lo≤x:=h;simp [h']
theorem from_eq (x lo hi:Int):impl_from.f x lo hi=some (decide (lo≤x∧x≤hi)):=by
 unfold impl_from.f
 by_cases h:x≥lo
 ·rw [if_pos h];have h':lo≤x:=h;simp [h']
 ·rw [if_neg h];have h': ¬lo≤x:=h;simp [h']
theorem isWord_eq (x:Int):impl_isWord.f x=some (decide (0≤x∧x≤65535)):=by
 unfold impl_isWord.f;rw [from_eq];rfl
theorem isCell_eq (x:Int):impl_isCell.f x=some (decide (0≤x∧x≤23)):=by
 unfold impl_isCell.f;rw [from_eq];rfl
theorem l1Words_eq (l:List Int) (n:Int) (hl:l.length≤2097152) (k:Nat) (hk:l.length<k):spec_l1Words.f k l n=some (wordsB l n):=by
 unfold spec_l1Words.f
 refine for_all (L:=fun k i=>spec_l1Words.l0 k l n (i:Int)) (n:=l.length) (fun j=>0≤rd l (j:Int)∧rd l (j:Int)≤65535) ?_ ?_ (decide ((l.length:Int)=n)) ?_ ?_ k hk
 ·intro k i hi hp
  simp only [spec_l1Words.l0]
  rw [if_pos (by omega),if_pos (by omega),l1In_eq,decide_eq_true hp,Option.bind_some,if_pos rfl,wrap_succ (by omega)]
 ·intro k i hi hp
  simp only [spec_l1Words.l0]
  rw [if_pos (by omega),if_pos (by omega),l1In_eq,decide_eq_false hp,Option.bind_some,if_neg (by simp)]
 ·intro k
  simp only [spec_l1Words.l0]
  rw [if_neg (by omega)];rfl
 ·unfold wordsB
  rw [Bool.and_eq_true,List.all_eq_true]
  constructor
  ·rintro ⟨h1,h2⟩;exact ⟨fun j hj=>of_decide_eq_true (h2 _ (rd_mem l j hj)),h1⟩
  ·rintro ⟨h1,h2⟩;refine ⟨h2,fun x hx=>?_⟩
   obtain ⟨j,hj,rfl⟩:=List.getElem_of_mem hx
   have:=h1 j hj;rw [rd_nat l j hj] at this;exact decide_eq_true this
theorem wordsOk_eq (l:List Int) (n:Int) (hl:l.length≤2097152) (k:Nat) (hk:l.length<k):impl_wordsOk.f k l n=some (wordsB l n):=by
 unfold impl_wordsOk.f
 by_cases h:(l.length:Int)=n
 ·rw [if_pos h]
  unfold slices_ContainsFunc_at_impl_wordsOk_1.f slices_IndexFunc_at_impl_wordsOk_1.f
  have hf: ∀x,impl_wordsOk_1.f x=some (!decide (0≤x∧x≤65535)):=fun x=>by unfold impl_wordsOk_1.f;rw [isWord_eq];rfl
  have hs: ∀k i,i<l.length→¬¬(0≤rd l (i:Int)∧rd l (i:Int)≤65535)→slices_IndexFunc_at_impl_wordsOk_1.l0 (k+1) l (l.length:Int) (i:Int)=slices_IndexFunc_at_impl_wordsOk_1.l0 k l (l.length:Int) ((i+1:Nat):Int):=by
   intro k i hi hp
   simp only [slices_IndexFunc_at_impl_wordsOk_1.l0]
   rw [if_pos (by omega),if_pos (by omega),if_pos (by omega),hf,decide_eq_true (Classical.not_not.1 hp),Option.bind_some,if_neg (by simp),wrap_succ (by omega)]
  have hb: ∀k i,i<l.length→¬(0≤rd l (i:Int)∧rd l (i:Int)≤65535)→slices_IndexFunc_at_impl_wordsOk_1.l0 (k+1) l (l.length:Int) (i:Int)=some (i:Int):=by
   intro k i hi hp
   simp only [slices_IndexFunc_at_impl_wordsOk_1.l0]
   rw [if_pos (by omega),if_pos (by omega),if_pos (by omega),hf,decide_eq_false hp,Option.bind_some,if_pos (by simp)]
  have he: ∀k,slices_IndexFunc_at_impl_wordsOk_1.l0 (k+1) l (l.length:Int) (l.length:Int)=some (-1):=by
   intro k
   simp only [slices_IndexFunc_at_impl_wordsOk_1.l0]
   rw [if_neg (by omega)]
  rcases for_find l.length (fun k i=>slices_IndexFunc_at_impl_wordsOk_1.l0 k l (l.length:Int) (i:Int)) (fun j=>¬(0≤rd l (j:Int)∧rd l (j:Int)≤65535)) (fun j=>(j:Int)) (-1) hs hb he k 0 (Nat.zero_le _) (by omega) with ⟨j,_,h2,h3,_,h5⟩|⟨h1,h2⟩
  ·have h5':slices_IndexFunc_at_impl_wordsOk_1.l0 k l (l.length:Int) 0=some (j:Int):=h5
   rw [h5']
   simp only [Option.bind_some];congr 1;symm
   rw [decide_eq_true (by omega:(j:Int)≥0),Bool.not_true,wordsB,Bool.and_eq_false_iff];right
   rw [Bool.eq_false_iff];intro hh
   exact h3 (of_decide_eq_true (List.all_eq_true.1 hh _ (rd_mem l j h2)))
  ·have h2':slices_IndexFunc_at_impl_wordsOk_1.l0 k l (l.length:Int) 0=some (-1):=h2
   rw [h2']
   simp only [Option.bind_some];congr 1;symm
   rw [decide_eq_false (by omega: ¬(-1:Int)≥0),Bool.not_false,wordsB,decide_eq_true h,Bool.true_and,List.all_eq_true]
   intro x hx
   obtain ⟨j,hj,rfl⟩:=List.getElem_of_mem hx
   have:=Classical.not_not.1 (h1 j (Nat.zero_le _) hj);rw [rd_nat l j hj] at this;exact decide_eq_true this
 ·rw [if_neg h,wordsB,decide_eq_false h,Bool.false_and]
theorem memOk_eq (l:List Int) (hl:l.length≤2097152) (k:Nat) (hk:l.length<k):impl_memOk.f k l=some (wordsB l 24):=by
 unfold impl_memOk.f;rw [wordsOk_eq l 24 hl k hk];rfl
theorem insOkB_bounds {o r a b n:Int} (h:insOkB o r a b n=true):1≤o∧o≤10∧0≤r∧r≤3∧0≤a∧a≤3∧0≤b∧b≤3∧0≤n∧n≤63:=by
 unfold insOkB at h
 simp only [Bool.and_eq_true,decide_eq_true_eq] at h
 obtain ⟨h0,⟨h1,h1'⟩,⟨h2,h2'⟩,⟨h3,h3'⟩,⟨h4,h4'⟩⟩:=h
 refine ⟨?_,?_,h1,h1',h2,h2',h3,h3',h4,h4'⟩
 ·by_cases c:1≤o
  ·exact c
  ·exfalso
   rw [if_neg (by omega),if_neg (by omega),if_neg (by omega),if_neg (by omega),if_neg (by omega),if_neg (by omega),if_neg (by omega),if_neg (by omega),if_neg (by omega),if_neg (by omega)] at h0
   cases h0
 ·by_cases c:o≤10
  ·exact c
  ·exfalso
   rw [if_neg (by omega),if_neg (by omega),if_neg (by omega),if_neg (by omega),if_neg (by omega),if_neg (by omega),if_neg (by omega),if_neg (by omega),if_neg (by omega),if_neg (by omega)] at h0
   cases h0
theorem ite_some (b c:Bool):(if b=true then some c else some false)=some (b&&c):=by cases b<;>rfl
theorem l8Field_eq (x m:Int) (h:Bool):spec_l8Field.f x m h=some (decide (0≤x∧x≤m)&&(h||decide (x=0))):=by
 unfold spec_l8Field.f
 rw [l1In_eq,Option.bind_some]
 have e:(x == 0)=decide (x=0):=rfl
 rw [e]
 cases h<;>simp only [if_true,Bool.false_eq_true,if_false,Bool.true_or,Bool.false_or,ite_some]
theorem specInsOk_eq (o r a b n:Int):spec_InsOk.f o r a b n=some (insOkB o r a b n):=by
 unfold spec_InsOk.f spec_l8Has.f
 simp only [l1In_eq,l8Field_eq,Option.bind_some,ite_some]
 by_cases ho:1≤o∧o≤10
 ·have hc:o=1∨o=2∨o=3∨o=4∨o=5∨o=6∨o=7∨o=8∨o=9∨o=10:=by omega
  rw [decide_eq_true ho]
  rcases hc with rfl|rfl|rfl|rfl|rfl|rfl|rfl|rfl|rfl|rfl<;>
   (simp only [if_true,Option.bind_some,List.length_cons,List.length_nil]
    rw [if_pos (by omega),if_pos (by omega)]
    simp only [rd,Option.bind_some,Bool.true_and]
    congr 1
    rw [Bool.eq_iff_iff]
    simp [insOkB,show Go.bits .and .i64 0 1=0 by decide,show Go.bits .and .i64 0 2=0 by decide,show Go.bits .and .i64 0 4=0 by decide,show Go.bits .and .i64 0 8=0 by decide,
     show Go.bits .and .i64 7 1=1 by decide,show Go.bits .and .i64 7 2=2 by decide,show Go.bits .and .i64 7 4=4 by decide,show Go.bits .and .i64 7 8=0 by decide,
     show Go.bits .and .i64 8 1=0 by decide,show Go.bits .and .i64 8 2=0 by decide,show Go.bits .and .i64 8 4=0 by decide,show Go.bits .and .i64 8 8=8 by decide,
     show Go.bits .and .i64 9 1=1 by decide,show Go.bits .and .i64 9 2=0 by decide,show Go.bits .and .i64 9 4=0 by decide,show Go.bits .and .i64 9 8=8 by decide,
     show Go.bits .and .i64 10 1=0 by decide,show Go.bits .and .i64 10 2=2 by decide,show Go.bits .and .i64 10 4=0 by decide,show Go.bits .and .i64 10 8=8 by decide,
     show Go.bits .and .i64 11 1=1 by decide,show Go.bits .and .i64 11 2=2 by decide,show Go.bits .and .i64 11 4=0 by decide,show Go.bits .and .i64 11 8=8 by decide,
     show Go.bits .and .i64 14 1=0 by decide,show Go.bits .and .i64 14 2=2 by decide,show Go.bits .and .i64 14 4=4 by decide,show Go.bits .and .i64 14 8=8 by decide,
     show Go.bits .and .i64 15 1=1 by decide,show Go.bits .and .i64 15 2=2 by decide,show Go.bits .and .i64 15 4=4 by decide,show Go.bits .and .i64 15 8=8 by decide]
    try omega)
 ·have hn: ∀c,1≤c→c≤10→o≠c:=fun c h1 h2 e=>ho (by omega)
  simp [ho,insOkB,hn]
def cellsAll (l:List Int):Bool:=l.all (fun x=>decide (0≤x∧x≤23))
def watchB (s c:List Int):Bool:=(decide (s.length≤24)&&cellsAll s)&&(decide (c.length≤24)&&cellsAll c)
theorem cellsAll_iff (l:List Int):cellsAll l=true↔∀j,j<l.length→0≤rd l (j:Int)∧rd l (j:Int)≤23:=by
 unfold cellsAll;rw [List.all_eq_true]
 constructor
 ·intro h j hj;exact of_decide_eq_true (h _ (rd_mem l j hj))
 ·intro h x hx
  obtain ⟨j,hj,rfl⟩:=List.getElem_of_mem hx
  have:=h j hj;rw [rd_nat l j hj] at this;exact decide_eq_true this
theorem l24Places_eq (l:List Int) (hl:l.length≤2097152) (k:Nat) (hk:l.length<k):spec_l24Places.f k l=some (decide (l.length≤24)&&cellsAll l):=by
 unfold spec_l24Places.f
 refine for_all (L:=fun k i=>spec_l24Places.l0 k l (i:Int)) (n:=l.length) (fun j=>0≤rd l (j:Int)∧rd l (j:Int)≤23) ?_ ?_ (decide ((l.length:Int)≤24)) ?_ ?_ k hk
 ·intro k i hi hp
  simp only [spec_l24Places.l0]
  rw [if_pos (by omega),if_pos (by omega),l1In_eq,decide_eq_true hp,Option.bind_some,if_pos rfl,wrap_succ (by omega)]
 ·intro k i hi hp
  simp only [spec_l24Places.l0]
  rw [if_pos (by omega),if_pos (by omega),l1In_eq,decide_eq_false hp,Option.bind_some,if_neg (by simp)]
 ·intro k
  simp only [spec_l24Places.l0]
  rw [if_neg (by omega)]
 ·rw [Bool.and_eq_true,cellsAll_iff,decide_eq_true_iff,decide_eq_true_iff]
  constructor
  ·rintro ⟨h1,h2⟩;exact ⟨h2,by omega⟩
  ·rintro ⟨h1,h2⟩;exact ⟨by omega,h1⟩
theorem specWatchOk_eq (s c:List Int) (hs:s.length≤1048576) (hc:c.length≤1048576) (k:Nat) (hk:1048600<k):spec_WatchOk.f k s c=some (watchB s c):=by
 unfold spec_WatchOk.f watchB
 rw [l24Places_eq s (by omega) k (by omega),l24Places_eq c (by omega) k (by omega),Option.bind_some]
 cases decide (s.length≤24)&&cellsAll s<;>rfl
theorem concat2_eq (s c:List Int) (hs:s.length≤1048576) (hc:c.length≤1048576) (k:Nat) (hk:20<k):slices_Concat_int_int.f k [s,c]=some (s++c):=by
 obtain ⟨k,rfl⟩: ∃m,k=m+6:=⟨k-6,by omega⟩
 unfold slices_Concat_int_int.f
 have r0:rd_L3 [s,c] 0=s:=rfl
 have r1:rd_L3 [s,c] 1=c:=rfl
 have w1:wrap64 (0+(s.length:Int))=s.length:=by unfold wrap64;omega
 have w2:wrap64 ((s.length:Int)+(c.length:Int))=(s.length:Int)+c.length:=by unfold wrap64;omega
 have w3:wrap64 (0+1)=1:=by unfold wrap64;omega
 have w4:wrap64 (1+1)=2:=by unfold wrap64;omega
 have len:(([s,c]:List (List Int)).length:Int)=2:=rfl
 rw [len,slices_Concat_int_int.l0,if_pos (by decide),if_pos (by decide),if_pos (by rw [len];decide),r0,w1,if_neg (by omega),w3,slices_Concat_int_int.l0,if_pos (by decide),if_pos (by decide),if_pos (by rw [len];decide),r1,w2,if_neg (by omega),w4,
  slices_Concat_int_int.l0,if_neg (by decide),slices_Grow_at_nil.f,if_pos (by omega),Option.bind_some,len,slices_Concat_int_int.l1,if_pos (by decide),if_pos (by decide),if_pos (by rw [len];decide),r0,if_pos (by show 0+_<_;omega),w3,List.nil_append,
  slices_Concat_int_int.l1,if_pos (by decide),if_pos (by decide),if_pos (by rw [len];decide),r1,if_pos (by omega),w4,slices_Concat_int_int.l1,if_neg (by decide)]
theorem implWatchOk_eq (s c:List Int) (hs:s.length≤1048576) (hc:c.length≤1048576) (k:Nat) (hk:3000000<k):impl_WatchOk.f k s c=some (watchB s c):=by
 unfold impl_WatchOk.f watchB
 by_cases h1:s.length≤24
 ·rw [if_pos (by omega),decide_eq_true h1,Bool.true_and]
  by_cases h2:c.length≤24
  ·rw [if_pos (by omega),decide_eq_true h2,Bool.true_and,concat2_eq s c hs hc k (by omega),Option.bind_some]
   unfold slices_ContainsFunc_at_impl_WatchOk_1.f slices_IndexFunc_at_impl_WatchOk_1.f
   have hl:(s++c).length≤100:=by rw [List.length_append];omega
   have hf: ∀x,impl_WatchOk_1.f x=some (!decide (0≤x∧x≤23)):=fun x=>by unfold impl_WatchOk_1.f;rw [isCell_eq];rfl
   have H:=idx_any (n:=(s++c).length) (fun k i=>slices_IndexFunc_at_impl_WatchOk_1.l0 k (s++c) ((s++c).length:Int) (i:Int)) (fun i=>!decide (0≤rd (s++c) (i:Int)∧rd (s++c) (i:Int)≤23)) ?_ ?_ ?_ (!(cellsAll (s++c))) ?_ k (by omega)
   ·obtain ⟨v,e,hv⟩:=H
    have e':slices_IndexFunc_at_impl_WatchOk_1.l0 k (s++c) ((s++c).length:Int) 0=some v:=e
    rw [e',Option.bind_some,hv,Option.bind_some,Bool.not_not]
    unfold cellsAll;rw [List.all_append]
   ·intro k i hi hq
    simp only [slices_IndexFunc_at_impl_WatchOk_1.l0]
    rw [if_pos (by omega),if_pos (by omega),if_pos (by omega),hf,hq,Option.bind_some,if_neg (by simp),wrap_succ (by omega)]
   ·intro k i hi hq
    simp only [slices_IndexFunc_at_impl_WatchOk_1.l0]
    rw [if_pos (by omega),if_pos (by omega),if_pos (by omega),hf,hq,Option.bind_some,if_pos rfl]
   ·intro k
    simp only [slices_IndexFunc_at_impl_WatchOk_1.l0]
    rw [if_neg (by omega)]
   ·constructor
    ·intro h
     refine Classical.byContradiction fun hn=>?_
     have:cellsAll (s++c)=true:=(cellsAll_iff _).2 fun j hj=>Classical.byContradiction fun hh=>hn ⟨j,hj,by rw [decide_eq_false hh];rfl⟩
     rw [this] at h;exact absurd h (by simp)
    ·rintro ⟨j,hj,hq⟩
     cases hc':cellsAll (s++c)
     ·rfl
     ·have:=(cellsAll_iff _).1 hc' j hj
      rw [decide_eq_true this] at hq;exact absurd hq (by simp)
  ·rw [if_neg (by omega),decide_eq_false h2,Bool.false_and,Bool.and_false]
 ·rw [if_neg (by omega),decide_eq_false h1,Bool.false_and,Bool.false_and]
theorem implHartOk_eq (regs:List Int) (pc st:Int) (hl:regs.length≤2097152) (k:Nat) (hk:regs.length<k):impl_HartOk.f k regs pc st=some (hartB regs pc st):=by
 unfold impl_HartOk.f hartB
 simp only [wordsOk_eq regs 4 hl k hk,isCell_eq,from_eq,Option.bind_some,ite_some']
theorem specHartOk_eq (regs:List Int) (pc st:Int) (hl:regs.length≤2097152) (k:Nat) (hk:regs.length<k):spec_HartOk.f k regs pc st=some (hartB regs pc st):=by
 unfold spec_HartOk.f hartB
 simp only [l1Words_eq regs 4 hl k hk,l1In_eq,Option.bind_some,ite_some']
theorem and_range (x:Int) (m:Nat) (hm:m<2 ^ 62):0≤Go.bits .and .i64 x (m:Int)∧Go.bits .and .i64 x (m:Int)≤(m:Int):=by
 have h:(BitVec.ofInt 64 x&&& BitVec.ofInt 64 (m:Int)).toNat≤m:=by
  rw [BitVec.toNat_and]
  refine Nat.le_trans Nat.and_le_right ?_
  rw [BitVec.ofInt_natCast,BitVec.toNat_ofNat]
  exact Nat.mod_le _ _
 have e:Go.bits .and .i64 x (m:Int)=(((BitVec.ofInt 64 x&&& BitVec.ofInt 64 (m:Int)).toNat:Nat):Int):=by
  show IntKind.i64.wrap (((BitVec.ofInt 64 x&&& BitVec.ofInt 64 (m:Int)).toNat:Nat):Int)=_
  exact wraps_i64 _ (by omega) (by omega)
 rw [e];omega
def curOk (c:List Int) (i:Int):Prop:=c.length≤1048576∧0≤i∧i≤(c.length:Int)
theorem l1New_ex (c:List Int) (hc:c.length≤1048576) (k:Nat) (hk:4010<k): ∃i s,spec_l1New.f k c=some (c,i,s)∧curOk c i:=by
 unfold spec_l1New.f
 have h: ∀(k j:Nat) (s:Int),j≤4000→4000<j+k→∃i s',spec_l1New.l0 k c s (j:Int)=some (c,i,s')∧curOk c i:=by
  intro k
  induction k with
  |zero=>intro j s h1 h2;omega
  |succ k ih=>
   intro j s h1 h2
   rw [spec_l1New.l0]
   by_cases h:(j:Int)<(c.length:Int)
   ·rw [if_pos h]
    by_cases h':(j:Int)<4000
    ·rw [if_pos h',if_pos (by omega),wrap_succ (by omega)];exact ih _ _ (by omega) (by omega)
    ·rw [if_neg h'];exact ⟨_,_,rfl,hc,by omega,by omega⟩
   ·rw [if_neg h];exact ⟨_,_,rfl,hc,by omega,by omega⟩
 exact h k 0 _ (by omega) (by omega)
theorem l1Byte_ex (c:List Int) (i s:Int) (h:curOk c i): ∃b i' s',spec_l1Byte.f c i s=some (b,i',s')∧0≤b∧b≤255∧curOk c i':=by
 unfold spec_l1Byte.f
 obtain ⟨h1,h2,h3⟩:=h
 by_cases hl:i<(c.length:Int)
 ·rw [if_pos hl,if_pos h2]
  have hr:=fun x=>and_range x 255 (by decide)
  exact ⟨_,_,_,rfl,(hr _).1,(hr _).2,h1,by unfold wrap64;omega,by unfold wrap64;omega⟩
 ·rw [if_neg hl]
  have hr:=fun x=>and_range x 255 (by decide)
  exact ⟨_,_,_,rfl,(hr _).1,(hr _).2,h1,h2,h3⟩
theorem l1Below_ex (c:List Int) (i s:Int) (h:curOk c i) (n:Int) (hn:0<n) (hb:n≤4294967296): ∃v i' s',spec_l1Below.f c i s n=some (v,i',s')∧0≤v∧v<n∧curOk c i':=by
 unfold spec_l1Below.f
 rw [if_neg (by omega)]
 by_cases hs:n≤256
 ·obtain ⟨b,i1,s1,e,h0,h1,hc⟩:=l1Byte_ex c i s h
  rw [if_pos hs,e,Option.bind_some,if_neg (by omega)]
  exact ⟨_,_,_,rfl,Int.tmod_nonneg _ h0,Int.tmod_lt_of_pos _ hn,hc⟩
 ·obtain ⟨b1,i1,s1,e1,p1,q1,c1⟩:=l1Byte_ex c i s h
  obtain ⟨b2,i2,s2,e2,p2,q2,c2⟩:=l1Byte_ex c i1 s1 c1
  obtain ⟨b3,i3,s3,e3,p3,q3,c3⟩:=l1Byte_ex c i2 s2 c2
  obtain ⟨b4,i4,s4,e4,p4,q4,c4⟩:=l1Byte_ex c i3 s3 c3
  rw [if_neg hs]
  simp only [e1,e2,e3,e4,Option.bind_some]
  rw [if_neg (by omega)]
  exact ⟨_,_,_,rfl,Int.tmod_nonneg _ (by unfold wrap64;omega),Int.tmod_lt_of_pos _ hn,c4⟩
theorem l1Once_ex (c:List Int) (i s:Int) (h:curOk c i) (n:Int) (hn:0<n) (hb:n≤4294967296): ∃v i' s',spec_l1Once.f c i s n=some (v,i',s')∧curOk c i':=by
 unfold spec_l1Once.f
 obtain ⟨v,i1,s1,e,_,_,hc⟩:=l1Below_ex c i s h n hn hb
 rw [e,Option.bind_some]
 exact ⟨_,_,_,rfl,hc⟩
theorem l1PickInt_ex (c:List Int) (i s:Int) (h:curOk c i) (l:List Int) (h0:0<l.length) (h1:l.length≤1000): ∃v i' s',spec_l1PickInt.f c i s l=some (v,i',s')∧v∈l∧curOk c i':=by
 unfold spec_l1PickInt.f
 obtain ⟨v,i1,s1,e,p,q,hc⟩:=l1Below_ex c i s h (l.length:Int) (by omega) (by omega)
 rw [e,Option.bind_some,if_pos p,if_pos q]
 refine ⟨_,_,_,rfl,?_,hc⟩
 obtain ⟨j,rfl⟩: ∃j:Nat,v=(j:Int):=⟨v.toNat,by omega⟩
 exact rd_mem l j (by omega)
theorem l8Has_ex (o:Int) (h0:1≤o) (h1:o≤10): ∃v,spec_l8Has.f o=some v:=by
 unfold spec_l8Has.f
 rw [l1In_eq,decide_eq_true ⟨h0,h1⟩,Option.bind_some,if_pos rfl,Option.bind_some,if_pos (by omega),if_pos (by simp;omega)]
 exact ⟨_,rfl⟩
theorem drawIns_j1 (x:Int) (c:List Int) (i s:Int) (h:curOk c i) (o r a b n:Int) (k:Nat): ∃o' r' a' b' n' i' s',spec_l8DrawIns.j1 (k+1) x c i s o r a b n=some (o',r',a',b',n',i',s')∧curOk c i':=by
 rw [spec_l8DrawIns.j1]
 obtain ⟨v,i1,s1,e1,_,_,c1⟩:=l1Below_ex c i s h 4 (by omega) (by omega)
 obtain ⟨v2,i2,s2,e2,_,c2⟩:=l1PickInt_ex c i s h [0,1,2,4,8,9,12,20,23] (by simp) (by simp)
 obtain ⟨v3,i3,s3,e3,_,c3⟩:=l1PickInt_ex c i1 s1 c1 [0,1,2,4,8,9,12,20,23] (by simp) (by simp)
 by_cases h1:Go.bits .and .i64 x 4=0
 ·rw [if_pos h1]
  by_cases h2:Go.bits .and .i64 x 8=0
  ·rw [if_pos h2];exact ⟨_,_,_,_,_,_,_,rfl,h⟩
  ·rw [if_neg h2,e2,Option.bind_some];exact ⟨_,_,_,_,_,_,_,rfl,c2⟩
 ·rw [if_neg h1,e1,Option.bind_some]
  by_cases h2:Go.bits .and .i64 x 8=0
  ·rw [if_pos h2];exact ⟨_,_,_,_,_,_,_,rfl,c1⟩
  ·rw [if_neg h2]
   simp only [e3,Option.bind_some];exact ⟨_,_,_,_,_,_,_,rfl,c3⟩
theorem drawIns_j0 (x:Int) (c:List Int) (i s:Int) (h:curOk c i) (o r a b n:Int) (k:Nat): ∃o' r' a' b' n' i' s',spec_l8DrawIns.j0 (k+2) x c i s o r a b n=some (o',r',a',b',n',i',s')∧curOk c i':=by
 rw [spec_l8DrawIns.j0]
 obtain ⟨v,i1,s1,e1,_,_,c1⟩:=l1Below_ex c i s h 4 (by omega) (by omega)
 by_cases h1:Go.bits .and .i64 x 2=0
 ·rw [if_pos h1];exact drawIns_j1 x c i s h o r a b n k
 ·rw [if_neg h1,e1,Option.bind_some];exact drawIns_j1 x c i1 s1 c1 o r v b n k
theorem drawIns_ex (c:List Int) (i s:Int) (h:curOk c i) (k:Nat) (hk:2≤k): ∃o r a b n i' s',spec_l8DrawIns.f k c i s=some (o,r,a,b,n,i',s')∧curOk c i':=by
 obtain ⟨k,rfl⟩: ∃m,k=m+2:=⟨k-2,by omega⟩
 unfold spec_l8DrawIns.f
 obtain ⟨o,i1,s1,e1,ho,c1⟩:=l1PickInt_ex c i s h [1,1,2,3,3,4,4,5,5,5,6,6,7,8,9,10] (by simp) (by simp)
 have ho':1≤o∧o≤10:=by simp at ho;omega
 obtain ⟨x,ex⟩:=l8Has_ex o ho'.1 ho'.2
 rw [e1,Option.bind_some]
 simp only [ex,Option.bind_some]
 by_cases h1:Go.bits .and .i64 x 1=0
 ·rw [if_pos h1];exact drawIns_j0 x c i1 s1 c1 o 0 0 0 0 k
 ·obtain ⟨v,i2,s2,e2,_,_,c2⟩:=l1Below_ex c i1 s1 c1 4 (by omega) (by omega)
  rw [if_neg h1,e2,Option.bind_some];exact drawIns_j0 x c i2 s2 c2 o v 0 0 0 k
theorem implAddress_eq (n:Int):impl_address.f n=some (n % 24):=by
 unfold impl_address.f
 have b:=tmod_bd n 24 (by omega)
 rw [wrap_small (by omega) (by omega),tmod_up n 24 (by omega) (by omega)]
theorem implWrapped_eq (n:Int):impl_wrapped.f n=some (n % 65536):=by
 unfold impl_wrapped.f
 have b:=tmod_bd n 65536 (by omega)
 rw [wrap_small (x:=Int.tmod n 65536+65535) (by omega) (by omega),wrap_small (by omega) (by omega),show Int.tmod n 65536+65535+1=Int.tmod n 65536+65536 by omega,tmod_up n 65536 (by omega) (by omega)]
def opV (r:List Int) (pc st:Int) (o i a b n got:Int):List Int×Int×Int×Int:=
 if o=1 then (r.set i.toNat n,(pc+1) % 24,st,-1)
 else if o=2 then (r.set i.toNat ((rd r a+rd r b) % 65536),(pc+1) % 24,st,-1)
 else if o=10 then (r.set i.toNat ((rd r a-rd r b) % 65536),(pc+1) % 24,st,-1)
 else if o=3 then (r.set i.toNat ((rd r a+n) % 65536),(pc+1) % 24,st,-1)
 else if o=4 then (r.set i.toNat got,(pc+1) % 24,st,-1)
 else if o=5 then (r,(pc+1) % 24,st,rd r b)
 else if o=6 then (r.set i.toNat got,(pc+1) % 24,st,(got+rd r b) % 65536)
 else if o=7 then (if rd r a=0 then (r,n % 24,st,-1) else (r,(pc+1) % 24,st,-1))
 else if o=8 then (r,n % 24,st,-1)
 else if o=9 then (r,pc,1,-1)
 else (r,(pc+1) % 24,st,-1)
def workV (r:List Int) (pc st:Int) (o i a b n got:Int):List Int×Int×Int×Int:=
 if hartB r pc st=true∧st=0∧(0≤got∧got≤65535) then (if insOkB o i a b n=true then opV r pc st o i a b n got else (r,pc,2,-1)) else (r,pc,st,-1)
theorem hartB_parts {r:List Int} {p s:Int} (h:hartB r p s=true):r.length=4∧(∀x,x∈r→0≤x∧x≤65535)∧(0≤p∧p≤23)∧(0≤s∧s≤2):=by
 have l:=hartB_len h
 unfold hartB at h;rw [Bool.and_eq_true,Bool.and_eq_true] at h
 exact ⟨l,fun x hx=>wordsB_mem h.1 x hx,of_decide_eq_true h.2.1,of_decide_eq_true h.2.2⟩
theorem rd_word {r:List Int} (hw: ∀x,x∈r→0≤x∧x≤65535) (i:Int):0≤rd r i∧rd r i≤65535:=by
 unfold rd
 rw [List.getD_eq_getElem?_getD]
 cases h:r[i.toNat]? with
 |none=>simp
 |some x=>exact hw x (List.mem_of_getElem? h)
theorem implWork_j2 (k:Nat) (r:List Int) (pc st o i a b n got:Int) (hr:r.length=4) (hw: ∀x,x∈r→0≤x∧x≤65535) (hg:0≤got∧got≤65535) (hi:0≤i∧i≤3) (hn:0≤n∧n≤63):
  impl_Work.j2 (k+2) got (rd r a) (rd r b) (-1) ((pc+1) % 24) o r pc st o i a b n=some (opV r pc st o i a b n got):=by
 have wa:=rd_word hw a
 have wb:=rd_word hw b
 rw [impl_Work.j2]
 unfold opV
 rw [wrap_small (x:=rd r a+rd r b) (by omega) (by omega),wrap_small (x:=rd r a-rd r b) (by omega) (by omega),wrap_small (x:=rd r a+n) (by omega) (by omega),wrap_small (x:=got+rd r b) (by omega) (by omega)]
 simp only [implWrapped_eq,implAddress_eq,Option.bind_some]
 have h1:i<(r.length:Int):=by omega
 simp only [if_pos hi.1,if_pos h1]
 by_cases c1:o=1
 ·rw [if_pos c1,if_pos c1]
  all_goals (try rw [impl_Work.j3])
 rw [if_neg c1,if_neg c1]
 by_cases c2:o=2
 ·rw [if_pos c2,if_pos c2]
  all_goals (try rw [impl_Work.j3])
 rw [if_neg c2,if_neg c2]
 by_cases c3:o=10
 ·rw [if_pos c3,if_pos c3]
  all_goals (try rw [impl_Work.j3])
 rw [if_neg c3,if_neg c3]
 by_cases c4:o=3
 ·rw [if_pos c4,if_pos c4]
  all_goals (try rw [impl_Work.j3])
 rw [if_neg c4,if_neg c4]
 by_cases c5:o=4
 ·rw [if_pos c5,if_pos c5]
  all_goals (try rw [impl_Work.j3])
 rw [if_neg c5,if_neg c5]
 by_cases c6:o=5
 ·rw [if_pos c6,if_pos c6]
  all_goals (try rw [impl_Work.j3])
 rw [if_neg c6,if_neg c6]
 by_cases c7:o=6
 ·rw [if_pos c7,if_pos c7]
  all_goals (try rw [impl_Work.j3])
 rw [if_neg c7,if_neg c7]
 by_cases c8:o=7
 ·rw [if_pos c8,if_pos c8]
  by_cases c:rd r a=0
  ·rw [if_pos c,if_pos c]
   all_goals (try rw [impl_Work.j3])
  ·rw [if_neg c,if_neg c]
   all_goals (try rw [impl_Work.j3])
 rw [if_neg c8,if_neg c8]
 by_cases c9:o=8
 ·rw [if_pos c9,if_pos c9]
  all_goals (try rw [impl_Work.j3])
 rw [if_neg c9,if_neg c9]
 by_cases c10:o=9
 ·rw [if_pos c10,if_pos c10]
  all_goals (try rw [impl_Work.j3])
 rw [if_neg c10,if_neg c10]
 all_goals (try rw [impl_Work.j3])
theorem implWork_eq (r:List Int) (pc st o i a b n got:Int) (hl:r.length≤2097152) (k:Nat) (hk:r.length+10<k):impl_Work.f k r pc st o i a b n got=some (workV r pc st o i a b n got):=by
 obtain ⟨k,rfl⟩: ∃m,k=m+4:=⟨k-4,by omega⟩
 unfold impl_Work.f impl_copyHart.f slices_Clone_int_int.f workV
 rw [if_pos (by omega),Option.bind_some,Option.bind_some]
 simp only [implHartOk_eq r pc st (by omega) (k+4) (by omega),Option.bind_some]
 have jt:impl_Work.j0 (k+4) got true r pc st o i a b n=some (r,pc,st,-1):=by rw [impl_Work.j0,if_pos rfl]
 by_cases h:hartB r pc st=true
 ·obtain ⟨p1,p2,p3,p4⟩:=hartB_parts h
  rw [if_pos h]
  by_cases hs:st=0
  ·rw [if_pos hs,isWord_eq,Option.bind_some]
   by_cases hg:0≤got∧got≤65535
   ·rw [if_pos ⟨h,hs,hg⟩,decide_eq_true hg,Bool.not_true,impl_Work.j0,if_neg (by simp)]
    unfold impl_InsOk.f
    rw [Option.bind_some]
    by_cases hi:insOkB o i a b n=true
    ·obtain ⟨b0,b0',b1,b1',b2,b2',b3,b3',b4,b4'⟩:=insOkB_bounds hi
     rw [if_pos hi,hi,Bool.not_true,impl_Work.j1,if_neg (by simp),if_pos b2,if_pos (by omega),if_pos b3,if_pos (by omega),implAddress_eq,Option.bind_some,wrap_small (x:=pc+1) (by omega) (by omega)]
     exact implWork_j2 k r pc st o i a b n got p1 p2 hg ⟨b1,b1'⟩ ⟨b4,b4'⟩
    ·have hi':insOkB o i a b n=false:=by simpa using hi
     rw [if_neg hi,hi',Bool.not_false,impl_Work.j1,if_pos rfl]
   ·rw [if_neg (fun c=>hg c.2.2),decide_eq_false hg,Bool.not_false,jt]
  ·rw [if_neg hs,jt,if_neg (fun c=>hs c.2.1)]
 ·rw [if_neg h,jt,if_neg (fun c=>h c.1)]
def decodeB (w:Int):Bool:=decide (0≤w∧w≤65535)&&insOkB (w % 16) (w / 16 % 4) (w / 64 % 4) (w / 256 % 4) (w / 1024)
def decodeV (w:Int):Int×Int×Int×Int×Int×Bool:=if decodeB w=true then (w % 16,w / 16 % 4,w / 64 % 4,w / 256 % 4,w / 1024,true) else (0,0,0,0,0,false)
theorem implDecode_eq (w:Int):impl_Decode.f w=some (decodeV w):=by
 unfold impl_Decode.f decodeV decodeB impl_InsOk.f
 rw [isWord_eq,Option.bind_some]
 by_cases h:0≤w∧w≤65535
 ·rw [decide_eq_true h,if_pos rfl,Bool.true_and]
  have e1:Int.tmod w 16=w % 16:=tmod_pos _ _ h.1
  have e2:Int.tmod (wrap64 (Int.tdiv w 16)) 4=w / 16 % 4:=by rw [tdiv_pos _ _ h.1,wrap_small (by omega) (by omega),tmod_pos _ _ (by omega)]
  have e3:Int.tmod (wrap64 (Int.tdiv w 64)) 4=w / 64 % 4:=by rw [tdiv_pos _ _ h.1,wrap_small (by omega) (by omega),tmod_pos _ _ (by omega)]
  have e4:Int.tmod (wrap64 (Int.tdiv w 256)) 4=w / 256 % 4:=by rw [tdiv_pos _ _ h.1,wrap_small (by omega) (by omega),tmod_pos _ _ (by omega)]
  have e5:wrap64 (Int.tdiv w 1024)=w / 1024:=by rw [tdiv_pos _ _ h.1,wrap_small (by omega) (by omega)]
  rw [e1,e2,e3,e4,e5,Option.bind_some]
  by_cases c:insOkB (w % 16) (w / 16 % 4) (w / 64 % 4) (w / 256 % 4) (w / 1024)=true
  ·rw [if_pos c,if_pos c]
  ·rw [if_neg c,if_neg c]
 ·rw [decide_eq_false h,if_neg (by simp),Bool.false_and,if_neg (by simp)]
def targetV (o i a b n:Int) (r:List Int):Int:=if insOkB o i a b n=true∧(o=4∨o=5∨o=6)∧r.length=4 then wrap64 (rd r a+n) % 24 else-1
theorem implTarget_eq (o i a b n:Int) (r:List Int):impl_Target.f o i a b n r=some (targetV o i a b n r):=by
 unfold impl_Target.f targetV impl_InsOk.f impl_aims.f
 rw [Option.bind_some]
 by_cases h:insOkB o i a b n=true
 ·have hb:=insOkB_bounds h
  rw [if_pos h]
  have ha:(if o=4 then some true else if o=5 then some true else some (o == 6))=some (decide (o=4∨o=5∨o=6)):=by
   by_cases c4:o=4
   ·rw [if_pos c4,decide_eq_true (.inl c4)]
   ·rw [if_neg c4]
    by_cases c5:o=5
    ·rw [if_pos c5,decide_eq_true (.inr (.inl c5))]
    ·rw [if_neg c5];congr 1;rw [Bool.eq_iff_iff];simp [c4,c5]
  rw [ha,Option.bind_some]
  by_cases c:o=4∨o=5∨o=6
  ·rw [decide_eq_true c,if_pos rfl]
   by_cases hl:r.length=4
   ·rw [if_pos (by omega),if_pos (by omega),if_pos (by omega),implAddress_eq,Option.bind_some,if_pos ⟨h,c,hl⟩]
   ·rw [if_neg (by omega),if_neg (fun x=>hl x.2.2)]
  ·rw [decide_eq_false c,if_neg (by simp),if_neg (fun x=>c x.2.1)]
 ·rw [if_neg h,if_neg (fun x=>h x.1)]
abbrev Hh:=S53
def hB (h:Hh):Bool:=hartB h.f0 h.f1 h.f2
def gotV (m:List Int) (h:Hh):Int:=if 0≤targetV (decodeV (rd m h.f1)).1 (decodeV (rd m h.f1)).2.1 (decodeV (rd m h.f1)).2.2.1 (decodeV (rd m h.f1)).2.2.2.1 (decodeV (rd m h.f1)).2.2.2.2.1 h.f0 then rd m (targetV (decodeV (rd m h.f1)).1 (decodeV (rd m h.f1)).2.1 (decodeV (rd m h.f1)).2.2.1 (decodeV (rd m h.f1)).2.2.2.1 (decodeV (rd m h.f1)).2.2.2.2.1 h.f0) else 0
def tgtV (m:List Int) (h:Hh):Int:=targetV (decodeV (rd m h.f1)).1 (decodeV (rd m h.f1)).2.1 (decodeV (rd m h.f1)).2.2.1 (decodeV (rd m h.f1)).2.2.2.1 (decodeV (rd m h.f1)).2.2.2.2.1 h.f0
def wkV (m:List Int) (h:Hh):List Int×Int×Int×Int:=workV h.f0 h.f1 h.f2 (decodeV (rd m h.f1)).1 (decodeV (rd m h.f1)).2.1 (decodeV (rd m h.f1)).2.2.1 (decodeV (rd m h.f1)).2.2.2.1 (decodeV (rd m h.f1)).2.2.2.2.1 (gotV m h)
def stepV (m:List Int) (h:Hh):List Int×Hh:=(if 0≤(wkV m h).2.2.2 then m.set (tgtV m h).toNat (wkV m h).2.2.2 else m,⟨(wkV m h).1,(wkV m h).2.1,(wkV m h).2.2.1⟩)
theorem tgt_range (o i a b n:Int) (r:List Int):targetV o i a b n r= -1∨0≤targetV o i a b n r∧targetV o i a b n r≤23:=by
 unfold targetV
 by_cases h:insOkB o i a b n=true∧(o=4∨o=5∨o=6)∧r.length=4
 ·rw [if_pos h];right;omega
 ·rw [if_neg h];left;rfl
theorem put_tgt {r:List Int} {pc st o i a b n got:Int} (h:0≤(workV r pc st o i a b n got).2.2.2):0≤targetV o i a b n r:=by
 unfold workV at h
 by_cases c:hartB r pc st=true∧st=0∧(0≤got∧got≤65535)
 ·rw [if_pos c] at h
  by_cases hi:insOkB o i a b n=true
  ·rw [if_pos hi] at h
   have hl:=hartB_len c.1
   unfold targetV
   by_cases c5:o=5
   ·rw [if_pos ⟨hi,.inr (.inl c5),hl⟩];omega
   ·by_cases c6:o=6
    ·rw [if_pos ⟨hi,.inr (.inr c6),hl⟩];omega
    ·exfalso
     unfold opV at h
     rw [if_neg c5,if_neg c6] at h
     revert h
     split
     ·simp
     split
     ·simp
     split
     ·simp
     split
     ·simp
     split
     ·simp
     split
     ·split<;>simp
     split
     ·simp
     split<;>simp
  ·rw [if_neg hi] at h;simp at h
 ·rw [if_neg c] at h;simp at h
theorem implStep_eq (m:List Int) (h:Hh) (hm:m.length=24) (hh:hB h=true) (k:Nat) (hk:20<k):impl_step.f k m h.f0 h.f1 h.f2=some ((stepV m h).2.f0,(stepV m h).2.f1,(stepV m h).2.f2,(stepV m h).1):=by
 obtain ⟨p1,p2,p3,p4⟩:=hartB_parts hh
 unfold impl_step.f stepV
 rw [if_pos p3.1,if_pos (by omega),implDecode_eq,Option.bind_some]
 simp only [implTarget_eq,Option.bind_some]
 rcases tgt_range (decodeV (rd m h.f1)).1 (decodeV (rd m h.f1)).2.1 (decodeV (rd m h.f1)).2.2.1 (decodeV (rd m h.f1)).2.2.2.1 (decodeV (rd m h.f1)).2.2.2.2.1 h.f0 with t|t
 ·rw [if_neg (by omega),implWork_eq _ _ _ _ _ _ _ _ _ (by omega) k (by omega),Option.bind_some]
  have e:gotV m h=0:=by unfold gotV;rw [if_neg (by omega)]
  unfold wkV;rw [e]
  by_cases c:0≤(workV h.f0 h.f1 h.f2 (decodeV (rd m h.f1)).1 (decodeV (rd m h.f1)).2.1 (decodeV (rd m h.f1)).2.2.1 (decodeV (rd m h.f1)).2.2.2.1 (decodeV (rd m h.f1)).2.2.2.2.1 0).2.2.2
  ·have:=put_tgt c;omega
  ·rw [if_neg c,if_neg c]
 ·have e:gotV m h=rd m (tgtV m h):=by unfold gotV tgtV;rw [if_pos t.1]
  rw [if_pos t.1,if_pos t.1,if_pos (by omega),implWork_eq _ _ _ _ _ _ _ _ _ (by omega) k (by omega),Option.bind_some]
  unfold wkV;rw [e];unfold tgtV
  by_cases c:0≤(workV h.f0 h.f1 h.f2 (decodeV (rd m h.f1)).1 (decodeV (rd m h.f1)).2.1 (decodeV (rd m h.f1)).2.2.1 (decodeV (rd m h.f1)).2.2.2.1 (decodeV (rd m h.f1)).2.2.2.2.1 (rd m (targetV (decodeV (rd m h.f1)).1 (decodeV (rd m h.f1)).2.1 (decodeV (rd m h.f1)).2.2.1 (decodeV (rd m h.f1)).2.2.2.1 (decodeV (rd m h.f1)).2.2.2.2.1 h.f0))).2.2.2
  ·rw [if_pos c,if_pos c]
  ·rw [if_neg c,if_neg c]
theorem rdH (l:List Hh) (i:Nat) (h:i<l.length):rd_T53 l (i:Int)=l[i]:=by
 unfold rd_T53;simp [List.getD,h]
def shortH (l:List Hh):Prop:=∀h,h∈l→h.f0.length≤2097152
theorem copyHarts_eq (l:List Hh) (hl:l.length≤2097152) (hb:shortH l) (k:Nat) (hk:l.length<k):impl_copyHarts.f k l=some l:=by
 unfold impl_copyHarts.f
 have h:=for_st l.length (fun k i (s:List Hh)=>impl_copyHarts.l0 k s l (l.length:Int) (i:Int)) (fun i=>l.take i) l ?_ ?_ k 0 (Nat.zero_le _) (by omega)
 ·simpa using h
 ·intro k i hi
  simp only [impl_copyHarts.l0]
  have hx:=hb _ (List.getElem_mem hi)
  rw [if_pos (by omega),if_pos (by omega),if_pos (by omega),rdH l i hi]
  unfold impl_copyHart.f slices_Clone_int_int.f
  rw [if_pos (by omega),Option.bind_some,Option.bind_some,if_pos (by simp;omega),wrap_succ (by omega),←snoc_step l i hi]
 ·intro k
  simp only [impl_copyHarts.l0]
  rw [if_neg (by omega),List.take_of_length_le (Nat.le_refl _)]
def goB (h:Hh):Bool:=hB h&&(h.f2 == 0)
theorem implGoes_eq (h:Hh) (hl:h.f0.length≤2097152) (k:Nat) (hk:h.f0.length<k):impl_goes.f k h.f0 h.f1 h.f2=some (goB h):=by
 unfold impl_goes.f goB hB
 rw [implHartOk_eq _ _ _ hl k hk,Option.bind_some]
 cases hartB h.f0 h.f1 h.f2<;>rfl
def mayGo (hs:List Hh) (i:Int):Prop:=0≤i∧i<(hs.length:Int)∧goB (rd_T53 hs i)=true
instance (hs:List Hh) (i:Int):Decidable (mayGo hs i):=by unfold mayGo;infer_instance
def nextV (s:List Int×List Hh) (i:Int):List Int×List Hh:=if mayGo s.2 i then ((stepV s.1 (rd_T53 s.2 i)).1,s.2.set i.toNat (stepV s.1 (rd_T53 s.2 i)).2) else s
def runV (m:List Int) (hs:List Hh) (order:List Int):List Int×List Hh:=order.foldl nextV (m,hs)
theorem stepV_len (m:List Int) (h:Hh):(stepV m h).1.length=m.length:=by
 unfold stepV;dsimp only;split
 ·rw [List.length_set]
 ·rfl
theorem nextV_len (s:List Int×List Hh) (i:Int):(nextV s i).1.length=s.1.length∧(nextV s i).2.length=s.2.length:=by
 unfold nextV;split
 ·exact ⟨stepV_len _ _,by rw [List.length_set]⟩
 ·exact ⟨rfl,rfl⟩
theorem stepV_short (m:List Int) (h:Hh) (hl:h.f0.length≤2097152):(stepV m h).2.f0.length≤2097152:=by
 unfold stepV wkV;dsimp only
 unfold workV;split
 ·split
  ·unfold opV
   split
   ·rw [List.length_set];exact hl
   split
   ·rw [List.length_set];exact hl
   split
   ·rw [List.length_set];exact hl
   split
   ·rw [List.length_set];exact hl
   split
   ·rw [List.length_set];exact hl
   split
   ·exact hl
   split
   ·rw [List.length_set];exact hl
   split
   ·split<;>exact hl
   split
   ·exact hl
   split<;>exact hl
  ·exact hl
 ·exact hl
theorem rdH_mem (l:List Hh) (i:Int) (h0:0≤i) (h1:i<(l.length:Int)):rd_T53 l i∈l:=by
 obtain ⟨j,rfl⟩: ∃j:Nat,i=(j:Int):=⟨i.toNat,by omega⟩
 rw [rdH l j (by omega)];exact List.getElem_mem _
theorem nextV_short (s:List Int×List Hh) (i:Int) (h:shortH s.2):shortH (nextV s i).2:=by
 unfold nextV;split
 ·rename_i c
  intro x hx
  rcases List.mem_or_eq_of_mem_set hx with hx|rfl
  ·exact h x hx
  ·exact stepV_short _ _ (h _ (rdH_mem _ _ c.1 c.2.1))
 ·exact h
theorem runV_snoc (m:List Int) (hs:List Hh) (o:List Int) (i:Int):runV m hs (o++[i])=nextV (runV m hs o) i:=by unfold runV;rw [List.foldl_append];rfl
theorem runV_len (m:List Int) (hs:List Hh) (o:List Int):(runV m hs o).1.length=m.length∧(runV m hs o).2.length=hs.length:=by
 have g: ∀(o:List Int) s,((o.foldl nextV s).1).length=s.1.length∧((o.foldl nextV s).2).length=s.2.length:=by
  intro o
  induction o with
  |nil=>exact fun s=>⟨rfl,rfl⟩
  |cons i o ih=>intro s;have h:=ih (nextV s i);have h2:=nextV_len s i;exact ⟨h.1.trans h2.1,h.2.trans h2.2⟩
 exact g o (m,hs)
theorem runV_short (m:List Int) (hs:List Hh) (o:List Int) (h:shortH hs):shortH (runV m hs o).2:=by
 have g: ∀(o:List Int) s,shortH s.2→shortH (o.foldl nextV s).2:=by
  intro o
  induction o with
  |nil=>exact fun s h=>h
  |cons i o ih=>intro s h;exact ih _ (nextV_short s i h)
 exact g o (m,hs) h
def flatV (m:List Int) (h:Hh):List Int×Hh:=if wordsB m 24=true∧goB h=true then stepV m h else (m,h)
theorem hartB_mk {r:List Int} {p s:Int} (h1:r.length=4) (h2: ∀x∈r,0≤x∧x≤65535) (h3:0≤p∧p≤23) (h4:0≤s∧s≤2):hartB r p s=true:=by
 unfold hartB wordsB
 rw [decide_eq_true h3,decide_eq_true h4,decide_eq_true (by omega),List.all_eq_true.2 fun x hx=>decide_eq_true (h2 x hx)];rfl
theorem set_word {r:List Int} {i:Nat} {v:Int} (h2: ∀x∈r,0≤x∧x≤65535) (hv:0≤v∧v≤65535): ∀x∈r.set i v,0≤x∧x≤65535:=fun x hx=>by
 rcases List.mem_or_eq_of_mem_set hx with hx|rfl
 ·exact h2 x hx
 ·exact hv
theorem workV_ok (r:List Int) (pc st o i a b n got:Int) (h:hartB r pc st=true):hartB (workV r pc st o i a b n got).1 (workV r pc st o i a b n got).2.1 (workV r pc st o i a b n got).2.2.1=true∧(workV r pc st o i a b n got).2.2.2≤65535:=by
 obtain ⟨p1,p2,p3,p4⟩:=hartB_parts h
 have wa:=rd_word p2 a
 have wb:=rd_word p2 b
 unfold workV
 by_cases c:hartB r pc st=true∧st=0∧(0≤got∧got≤65535)
 ·rw [if_pos c]
  by_cases hi:insOkB o i a b n=true
  ·have q:=insOkB_bounds hi
   have hst:=c.2.1
   have hg:=c.2.2
   have s1: ∀v:Int,0≤v∧v≤65535→hartB (r.set i.toNat v) ((pc+1) % 24) st=true:=fun v hv=>hartB_mk (by rw [List.length_set];exact p1) (set_word p2 hv) (by omega) p4
   rw [if_pos hi]
   unfold opV
   split
   ·exact ⟨s1 _ (by omega),by dsimp only;omega⟩
   split
   ·exact ⟨s1 _ (by omega),by dsimp only;omega⟩
   split
   ·exact ⟨s1 _ (by omega),by dsimp only;omega⟩
   split
   ·exact ⟨s1 _ (by omega),by dsimp only;omega⟩
   split
   ·exact ⟨s1 _ hg,by dsimp only;omega⟩
   split
   ·exact ⟨hartB_mk p1 p2 (by dsimp only;omega) p4,wb.2⟩
   split
   ·exact ⟨s1 _ hg,by dsimp only;omega⟩
   split
   ·split
    ·exact ⟨hartB_mk p1 p2 (by dsimp only;omega) p4,by dsimp only;omega⟩
    ·exact ⟨hartB_mk p1 p2 (by dsimp only;omega) p4,by dsimp only;omega⟩
   split
   ·exact ⟨hartB_mk p1 p2 (by dsimp only;omega) p4,by dsimp only;omega⟩
   split
   ·exact ⟨hartB_mk p1 p2 p3 (by dsimp only;omega),by dsimp only;omega⟩
   ·exact ⟨hartB_mk p1 p2 (by dsimp only;omega) p4,by dsimp only;omega⟩
  ·rw [if_neg hi];exact ⟨hartB_mk p1 p2 p3 (by dsimp only;omega),by dsimp only;omega⟩
 ·rw [if_neg c];exact ⟨h,by dsimp only;omega⟩
theorem wordsB_set {m:List Int} {i:Nat} {v:Int} (h:wordsB m 24=true) (hv:0≤v∧v≤65535):wordsB (m.set i v) 24=true:=by
 have l:=wordsB_24 h
 unfold wordsB
 rw [List.length_set,decide_eq_true (by omega),List.all_eq_true.2 fun x hx=>decide_eq_true (set_word (fun x hx=>wordsB_mem h x hx) hv x hx)];rfl
theorem stepV_ok (m:List Int) (h:Hh) (hm:wordsB m 24=true) (hh:hB h=true):wordsB (stepV m h).1 24=true∧hB (stepV m h).2=true:=by
 have w:=workV_ok h.f0 h.f1 h.f2 (decodeV (rd m h.f1)).1 (decodeV (rd m h.f1)).2.1 (decodeV (rd m h.f1)).2.2.1 (decodeV (rd m h.f1)).2.2.2.1 (decodeV (rd m h.f1)).2.2.2.2.1 (gotV m h) hh
 have e:wkV m h=workV h.f0 h.f1 h.f2 (decodeV (rd m h.f1)).1 (decodeV (rd m h.f1)).2.1 (decodeV (rd m h.f1)).2.2.1 (decodeV (rd m h.f1)).2.2.2.1 (decodeV (rd m h.f1)).2.2.2.2.1 (gotV m h):=rfl
 rw [←e] at w
 unfold stepV
 refine ⟨?_,w.1⟩
 dsimp only
 split
 ·rename_i c;exact wordsB_set hm ⟨c,w.2⟩
 ·exact hm
theorem nextV_words (s:List Int×List Hh) (i:Int) (hm:wordsB s.1 24=true):wordsB (nextV s i).1 24=true:=by
 unfold nextV
 split
 ·rename_i c
  have g:=c.2.2
  unfold goB at g
  rw [Bool.and_eq_true] at g
  exact (stepV_ok _ _ hm g.1).1
 ·exact hm
theorem sAddr_eq (x:Int):spec_l9Address.f x=some (x % 24):=by
 unfold spec_l9Address.f
 have hb:=tmod_bd x 24 (by omega)
 have hu:=tmod_up x 24 (by omega) (by omega)
 generalize x.tmod 24=t at hb hu ⊢
 rw [←hu]
 by_cases c:t<0
 ·rw [if_pos c,wrap_small (by omega) (by omega),tmod_pos _ _ (by omega),Int.emod_eq_of_lt (by omega) (by omega)]
 ·rw [if_neg c,tmod_pos _ _ (by omega),Int.add_emod_right,Int.emod_eq_of_lt (by omega) (by omega)]
theorem and_word (x:Int):Go.bits .and .i64 x 65535=x % 65536:=by
 have e:Go.bits .and .i64 x 65535=IntKind.i64.wrap (((BitVec.ofInt 64 x&&& BitVec.ofInt 64 (65535:Int)).toNat:Nat):Int):=rfl
 have h:(BitVec.ofInt 64 x&&& BitVec.ofInt 64 (65535:Int)).toNat=(x % 65536).toNat:=by
  rw [BitVec.toNat_and,show (BitVec.ofInt 64 (65535:Int)).toNat=2 ^ 16-1 by decide,Nat.and_two_pow_sub_one_eq_mod,BitVec.toNat_ofInt]
  omega
 rw [e,h,wraps_i64 _ (by omega) (by omega)]
 omega
theorem sWord_eq (x:Int):spec_l9Word.f x=some (x % 65536):=by
 unfold spec_l9Word.f
 rw [and_word]
theorem specDecode_eq (w:Int):spec_Decode.f w=some (decodeV w):=by
 unfold spec_Decode.f decodeV decodeB
 rw [l1In_eq,Option.bind_some]
 by_cases h:0≤w∧w≤65535
 ·have e1:Int.tmod w 16=w % 16:=tmod_pos _ _ h.1
  have e2:Int.tmod (wrap64 (Int.tdiv w 16)) 4=w / 16 % 4:=by rw [tdiv_pos _ _ h.1,wrap_small (by omega) (by omega),tmod_pos _ _ (by omega)]
  have e3:Int.tmod (wrap64 (Int.tdiv w 64)) 4=w / 64 % 4:=by rw [tdiv_pos _ _ h.1,wrap_small (by omega) (by omega),tmod_pos _ _ (by omega)]
  have e4:Int.tmod (wrap64 (Int.tdiv w 256)) 4=w / 256 % 4:=by rw [tdiv_pos _ _ h.1,wrap_small (by omega) (by omega),tmod_pos _ _ (by omega)]
  have e5:wrap64 (Int.tdiv w 1024)=w / 1024:=by rw [tdiv_pos _ _ h.1,wrap_small (by omega) (by omega)]
  rw [decide_eq_true h,if_pos rfl,e1,e2,e3,e4,e5,specInsOk_eq,Option.bind_some,Bool.true_and]
  split<;>rfl
 ·rw [decide_eq_false h,if_neg (by simp),Bool.false_and,if_neg (by simp)]
theorem specTarget_eq (o i a b n:Int) (r:List Int):spec_Target.f o i a b n r=some (targetV o i a b n r):=by
 unfold spec_Target.f targetV
 rw [specInsOk_eq,Option.bind_some]
 by_cases h:insOkB o i a b n=true
 ·have hb:=insOkB_bounds h
  rw [if_pos h]
  by_cases hl:r.length=4
  ·rw [if_pos (by omega)]
   by_cases c4:o=4
   ·rw [if_pos c4,if_pos (by omega),if_pos (by omega),sAddr_eq,Option.bind_some,if_pos ⟨h,.inl c4,hl⟩]
   rw [if_neg c4]
   by_cases c5:o=5
   ·rw [if_pos c5,if_pos (by omega),if_pos (by omega),sAddr_eq,Option.bind_some,if_pos ⟨h,.inr (.inl c5),hl⟩]
   rw [if_neg c5]
   by_cases c6:o=6
   ·rw [if_pos c6,if_pos (by omega),if_pos (by omega),sAddr_eq,Option.bind_some,if_pos ⟨h,.inr (.inr c6),hl⟩]
   ·rw [if_neg c6,if_neg (fun x=>by rcases x.2.1 with q|q|q<;>first|exact c4 q|exact c5 q|exact c6 q)]
  ·rw [if_neg (by omega),if_neg (fun x=>hl x.2.2)]
 ·rw [if_neg h,if_neg (fun x=>h x.1)]
theorem specWork_j1 (k:Nat) (r:List Int) (pc st o i a b n got:Int) (hr:r.length=4) (hw: ∀x,x∈r→0≤x∧x≤65535) (hg:0≤got∧got≤65535) (hi:0≤i∧i≤3) (hn:0≤n∧n≤63):
  spec_Work.j1 (k+2) got (-1) (rd r a) (rd r b) o r pc st o i a b n r ((pc+1) % 24) st=some (opV r pc st o i a b n got):=by
 have wa:=rd_word hw a
 have wb:=rd_word hw b
 rw [spec_Work.j1]
 unfold opV
 rw [wrap_small (x:=rd r a+rd r b) (by omega) (by omega),wrap_small (x:=rd r a-rd r b) (by omega) (by omega),wrap_small (x:=rd r a+n) (by omega) (by omega),wrap_small (x:=got+rd r b) (by omega) (by omega)]
 simp only [sWord_eq,sAddr_eq,Option.bind_some]
 have h1:i<(r.length:Int):=by omega
 simp only [if_pos hi.1,if_pos h1]
 by_cases c1:o=1
 ·rw [if_pos c1,if_pos c1]
  all_goals (try rw [spec_Work.j2])
 rw [if_neg c1,if_neg c1]
 by_cases c2:o=2
 ·rw [if_pos c2,if_pos c2]
  all_goals (try rw [spec_Work.j2])
 rw [if_neg c2,if_neg c2]
 by_cases c3:o=10
 ·rw [if_pos c3,if_pos c3]
  all_goals (try rw [spec_Work.j2])
 rw [if_neg c3,if_neg c3]
 by_cases c4:o=3
 ·rw [if_pos c4,if_pos c4]
  all_goals (try rw [spec_Work.j2])
 rw [if_neg c4,if_neg c4]
 by_cases c5:o=4
 ·rw [if_pos c5,if_pos c5]
  all_goals (try rw [spec_Work.j2])
 rw [if_neg c5,if_neg c5]
 by_cases c6:o=5
 ·rw [if_pos c6,if_pos c6]
  all_goals (try rw [spec_Work.j2])
 rw [if_neg c6,if_neg c6]
 by_cases c7:o=6
 ·rw [if_pos c7,if_pos c7]
  all_goals (try rw [spec_Work.j2])
 rw [if_neg c7,if_neg c7]
 by_cases c8:o=7
 ·rw [if_pos c8,if_pos c8]
  by_cases c:rd r a=0
  ·rw [if_pos c,if_pos c]
   all_goals (try rw [spec_Work.j2])
  ·rw [if_neg c,if_neg c]
   all_goals (try rw [spec_Work.j2])
 rw [if_neg c8,if_neg c8]
 by_cases c9:o=8
 ·rw [if_pos c9,if_pos c9]
  all_goals (try rw [spec_Work.j2])
 rw [if_neg c9,if_neg c9]
 by_cases c10:o=9
 ·rw [if_pos c10,if_pos c10]
  all_goals (try rw [spec_Work.j2])
 rw [if_neg c10,if_neg c10]
 all_goals (try rw [spec_Work.j2])
theorem specWork_eq (r:List Int) (pc st o i a b n got:Int) (hl:r.length≤2097152) (k:Nat) (hk:r.length+10<k):spec_Work.f k r pc st o i a b n got=some (workV r pc st o i a b n got):=by
 obtain ⟨k,rfl⟩: ∃m,k=m+4:=⟨k-4,by omega⟩
 unfold spec_Work.f spec_l9Copy.f workV
 rw [Option.bind_some,if_pos (by simp;omega),Option.bind_some,List.nil_append]
 simp only [specHartOk_eq r pc st (by omega) (k+4) (by omega),Option.bind_some]
 have jt:spec_Work.j0 (k+4) got true r pc st o i a b n r pc st=some (r,pc,st,-1):=by rw [spec_Work.j0,if_pos rfl]
 by_cases h:hartB r pc st=true
 ·obtain ⟨p1,p2,p3,p4⟩:=hartB_parts h
  rw [if_pos h]
  by_cases hs:st=0
  ·rw [if_pos hs,l1In_eq,Option.bind_some]
   by_cases hg:0≤got∧got≤65535
   ·rw [if_pos ⟨h,hs,hg⟩,decide_eq_true hg,Bool.not_true,spec_Work.j0,if_neg (by simp),wrap_small (x:=pc+1) (by omega) (by omega),sAddr_eq,Option.bind_some,specInsOk_eq,Option.bind_some]
    by_cases hi:insOkB o i a b n=true
    ·obtain ⟨b0,b0',b1,b1',b2,b2',b3,b3',b4,b4'⟩:=insOkB_bounds hi
     rw [if_pos hi,if_pos hi,if_pos b2,if_pos (by omega),if_pos b3,if_pos (by omega)]
     exact specWork_j1 (k+1) r pc st o i a b n got p1 p2 hg ⟨b1,b1'⟩ ⟨b4,b4'⟩
    ·rw [if_neg hi,if_neg hi]
   ·rw [if_neg (fun c=>hg c.2.2),decide_eq_false hg,Bool.not_false,jt]
  ·rw [if_neg hs,jt,if_neg (fun c=>hs c.2.1)]
 ·rw [if_neg h,jt,if_neg (fun c=>h c.1)]
theorem specFlatStep_eq (m:List Int) (h:Hh) (hm:m.length≤2097152) (hl:h.f0.length≤2097152) (k:Nat) (hk:2097200<k):spec_FlatStep.f k m h.f0 h.f1 h.f2=some ((flatV m h).1,(flatV m h).2.f0,(flatV m h).2.f1,(flatV m h).2.f2):=by
 obtain ⟨k,rfl⟩: ∃j,k=j+1:=⟨k-1,by omega⟩
 unfold spec_FlatStep.f flatV
 rw [Option.bind_some,if_pos (by simp;omega),Option.bind_some,List.nil_append,l1Words_eq m 24 hm (k+1) (by omega),Option.bind_some]
 have jt:spec_FlatStep.j0 (k+1) m m true h.f0 h.f1 h.f2=some (m,h.f0,h.f1,h.f2):=by
  rw [spec_FlatStep.j0,if_pos rfl]
  unfold spec_l9Copy.f
  rw [Option.bind_some,if_pos (by simp;omega),Option.bind_some,List.nil_append]
 by_cases w:wordsB m 24=true
 ·have l24:=wordsB_24 w
  rw [if_pos w,specHartOk_eq _ _ _ hl (k+1) (by omega),Option.bind_some]
  by_cases hh:hartB h.f0 h.f1 h.f2=true
  ·obtain ⟨p1,p2,p3,p4⟩:=hartB_parts hh
   rw [if_pos hh]
   by_cases hs:h.f2=0
   ·have g:goB h=true:=by unfold goB hB;rw [hh,hs];rfl
    rw [if_pos ⟨w,g⟩,show (h.f2 != 0)=false by rw [hs];rfl,spec_FlatStep.j0,if_neg (by simp),if_pos p3.1,if_pos (by omega),specDecode_eq,Option.bind_some,specTarget_eq,Option.bind_some]
    unfold stepV
    rcases tgt_range (decodeV (rd m h.f1)).1 (decodeV (rd m h.f1)).2.1 (decodeV (rd m h.f1)).2.2.1 (decodeV (rd m h.f1)).2.2.2.1 (decodeV (rd m h.f1)).2.2.2.2.1 h.f0 with t|t
    ·have e:gotV m h=0:=by unfold gotV;rw [if_neg (by omega)]
     rw [if_neg (by omega),specWork_eq _ _ _ _ _ _ _ _ _ (by omega) k (by omega),Option.bind_some]
     unfold wkV;rw [e]
     by_cases c:0≤(workV h.f0 h.f1 h.f2 (decodeV (rd m h.f1)).1 (decodeV (rd m h.f1)).2.1 (decodeV (rd m h.f1)).2.2.1 (decodeV (rd m h.f1)).2.2.2.1 (decodeV (rd m h.f1)).2.2.2.2.1 0).2.2.2
     ·have:=put_tgt c;omega
     ·rw [if_neg c,if_neg c]
    ·have e:gotV m h=rd m (tgtV m h):=by unfold gotV tgtV;rw [if_pos t.1]
     rw [if_pos t.1,if_pos t.1,if_pos (by omega),specWork_eq _ _ _ _ _ _ _ _ _ (by omega) k (by omega),Option.bind_some]
     unfold wkV;rw [e];unfold tgtV
     by_cases c:0≤(workV h.f0 h.f1 h.f2 (decodeV (rd m h.f1)).1 (decodeV (rd m h.f1)).2.1 (decodeV (rd m h.f1)).2.2.1 (decodeV (rd m h.f1)).2.2.2.1 (decodeV (rd m h.f1)).2.2.2.2.1 (rd m (targetV (decodeV (rd m h.f1)).1 (decodeV (rd m h.f1)).2.1 (decodeV (rd m h.f1)).2.2.1 (decodeV (rd m h.f1)).2.2.2.1 (decodeV (rd m h.f1)).2.2.2.2.1 h.f0))).2.2.2
     ·rw [if_pos c,if_pos c,if_pos (by omega)]
     ·rw [if_neg c,if_neg c]
   ·have g: ¬goB h=true:=fun q=>by unfold goB at q;rw [Bool.and_eq_true] at q;exact hs (by simpa using q.2)
    rw [show (h.f2 != 0)=true by simpa using hs,jt,if_neg (fun q=>g q.2)]
  ·have g: ¬goB h=true:=fun q=>by unfold goB hB at q;rw [Bool.and_eq_true] at q;exact hh q.1
   rw [if_neg hh,jt,if_neg (fun q=>g q.2)]
 ·rw [if_neg w,jt,if_neg (fun q=>w q.1)]
abbrev Ev:=S57
def eventV (m:List Int) (h:Hh) (who:Int):Ev:=if tgtV m h<0 then ⟨who,h.f1,tgtV m h,-1,-1⟩ else ⟨who,h.f1,tgtV m h,if (decodeV (rd m h.f1)).1=5 then-1 else rd m (tgtV m h),(wkV m h).2.2.2⟩
def traceV:List Int×List Hh→List Int→List Ev
 |_,[]=>[]
 |s,i :: o=>if mayGo s.2 i then eventV s.1 (rd_T53 s.2 i) i :: traceV (nextV s i) o else traceV s o
def ev1 (s:List Int×List Hh) (i:Int):List Ev:=if mayGo s.2 i then [eventV s.1 (rd_T53 s.2 i) i] else []
theorem traceV_snoc: ∀(o:List Int) (s:List Int×List Hh) (i:Int),traceV s (o++[i])=traceV s o++ev1 (o.foldl nextV s) i
 |[],s,i=>by
  simp only [List.nil_append,traceV,List.foldl_nil]
  unfold ev1
  split<;>rfl
 |j :: o,s,i=>by
  simp only [List.cons_append,traceV,List.foldl_cons]
  by_cases c:mayGo s.2 j
  ·rw [if_pos c,if_pos c,traceV_snoc o (nextV s j) i];rfl
  ·have e:nextV s j=s:=by unfold nextV;rw [if_neg c]
   rw [if_neg c,if_neg c,e,traceV_snoc o s i]
theorem traceV_len: ∀(o:List Int) (s:List Int×List Hh),(traceV s o).length≤o.length
 |[],s=>Nat.le_refl _
 |j :: o,s=>by
  simp only [traceV]
  have h1:=traceV_len o (nextV s j)
  have h2:=traceV_len o s
  split
  ·simp only [List.length_cons];omega
  ·simp only [List.length_cons];omega
theorem specEventOf_eq (m:List Int) (h:Hh) (who:Int) (hm:m.length≤2097152) (hl:h.f0.length≤2097152) (k:Nat) (hk:2097200<k):spec_EventOf.f k m h.f0 h.f1 h.f2 who=some (if wordsB m 24=true∧goB h=true then ((eventV m h who).f0,(eventV m h who).f1,(eventV m h who).f2,(eventV m h who).f3,(eventV m h who).f4,true) else (0,0,0,0,0,false)):=by
 obtain ⟨k,rfl⟩: ∃j,k=j+1:=⟨k-1,by omega⟩
 unfold spec_EventOf.f
 rw [l1Words_eq m 24 hm (k+1) (by omega),Option.bind_some]
 have jt:spec_EventOf.j0 (k+1) m who true h.f0 h.f1 h.f2=some (0,0,0,0,0,false):=by rw [spec_EventOf.j0,if_pos rfl]
 by_cases w:wordsB m 24=true
 ·have l24:=wordsB_24 w
  rw [if_pos w,specHartOk_eq _ _ _ hl (k+1) (by omega),Option.bind_some]
  by_cases hh:hartB h.f0 h.f1 h.f2=true
  ·obtain ⟨p1,p2,p3,p4⟩:=hartB_parts hh
   rw [if_pos hh]
   by_cases hs:h.f2=0
   ·have g:goB h=true:=by unfold goB hB;rw [hh,hs];rfl
    rw [if_pos ⟨w,g⟩,show (h.f2 != 0)=false by rw [hs];rfl,spec_EventOf.j0,if_neg (by simp),if_pos p3.1,if_pos (by omega),specDecode_eq,Option.bind_some,specTarget_eq,Option.bind_some]
    unfold eventV
    have eT:targetV (decodeV (rd m h.f1)).1 (decodeV (rd m h.f1)).2.1 (decodeV (rd m h.f1)).2.2.1 (decodeV (rd m h.f1)).2.2.2.1 (decodeV (rd m h.f1)).2.2.2.2.1 h.f0=tgtV m h:=rfl
    rw [eT]
    have t:tgtV m h= -1∨0≤tgtV m h∧tgtV m h≤23:=tgt_range _ _ _ _ _ _
    rcases t with t|t
    ·have ht:tgtV m h<0:=by omega
     simp only [if_pos ht]
    ·have e:gotV m h=rd m (tgtV m h):=by
      show (if 0≤tgtV m h then rd m (tgtV m h) else 0)=_
      rw [if_pos t.1]
     have ew:workV h.f0 h.f1 h.f2 (decodeV (rd m h.f1)).1 (decodeV (rd m h.f1)).2.1 (decodeV (rd m h.f1)).2.2.1 (decodeV (rd m h.f1)).2.2.2.1 (decodeV (rd m h.f1)).2.2.2.2.1 (rd m (tgtV m h))=wkV m h:=by unfold wkV;rw [e]
     have ht: ¬tgtV m h<0:=by omega
     have h0:tgtV m h<(m.length:Int):=by omega
     simp only [if_neg ht,if_pos t.1,if_pos h0]
     rw [specWork_eq _ _ _ _ _ _ _ _ _ (by omega) k (by omega),Option.bind_some,ew]
     by_cases c5:(decodeV (rd m h.f1)).1=5
     ·simp only [if_pos c5]
     ·simp only [if_neg c5]
   ·have g: ¬goB h=true:=fun q=>by unfold goB at q;rw [Bool.and_eq_true] at q;exact hs (by simpa using q.2)
    rw [show (h.f2 != 0)=true by simpa using hs,jt,if_neg (fun q=>g q.2)]
  ·have g: ¬goB h=true:=fun q=>by unfold goB hB at q;rw [Bool.and_eq_true] at q;exact hh q.1
   rw [if_neg hh,jt,if_neg (fun q=>g q.2)]
 ·rw [if_neg w,jt,if_neg (fun q=>w q.1)]
theorem contains_eq (l:List Int) (a:Int) (hl:l.length≤4194304) (k:Nat) (hk:l.length<k):slices_Contains_int_int.f k l a=some (decide (a∈l)):=by
 unfold slices_Contains_int_int.f slices_Index_int_int.f
 obtain ⟨v,h1,h2⟩:=idx_any (n:=l.length) (fun k i=>slices_Index_int_int.l0 k l a (l.length:Int) (i:Int)) (fun i=>decide (a=rd l (i:Int))) (fun k i hi hq=>by
  have hq:=of_decide_eq_false hq
  simp only [slices_Index_int_int.l0]
  rw [if_pos (by omega),if_pos (by omega),if_pos (by omega),if_neg hq,wrap_succ (by omega)]) (fun k i hi hq=>by
  have hq:=of_decide_eq_true hq
  simp only [slices_Index_int_int.l0]
  rw [if_pos (by omega),if_pos (by omega),if_pos (by omega),if_pos hq]) (fun k=>by
  simp only [slices_Index_int_int.l0]
  rw [if_neg (by omega)]) (decide (a∈l)) (by
  rw [decide_eq_true_iff,List.mem_iff_getElem]
  refine ⟨fun ⟨j,hj,e⟩=>⟨j,hj,?_⟩,fun ⟨j,hj,e⟩=>⟨j,hj,?_⟩⟩
  ·rw [decide_eq_true_iff,rd_nat l j hj,e]
  ·rw [decide_eq_true_iff,rd_nat l j hj] at e;exact e.symm) k hk
 have h1':slices_Index_int_int.l0 k l a (l.length:Int) 0=some v:=h1
 rw [h1',Option.bind_some,h2]
def wordX (x:Int):Prop:=0≤x∧x≤65535
theorem specCode_w (o r a b n:Int): ∃v t,spec_Code.f o r a b n=some (v,t)∧wordX v:=by
 unfold spec_Code.f
 rw [specInsOk_eq,Option.bind_some]
 by_cases h:insOkB o r a b n=true
 ·have q:=insOkB_bounds h
  rw [if_pos h]
  refine ⟨_,_,rfl,?_⟩
  unfold wordX
  rw [wrap_small (x:=16*r) (by omega) (by omega),wrap_small (x:=64*a) (by omega) (by omega),wrap_small (x:=256*b) (by omega) (by omega),wrap_small (x:=1024*n) (by omega) (by omega)]
  rw [wrap_small (x:=o+16*r) (by omega) (by omega)]
  rw [wrap_small (x:=o+16*r+64*a) (by omega) (by omega)]
  rw [wrap_small (x:=o+16*r+64*a+256*b) (by omega) (by omega)]
  rw [wrap_small (x:=o+16*r+64*a+256*b+1024*n) (by omega) (by omega)]
  omega
 ·rw [if_neg h];exact ⟨_,_,rfl,by unfold wordX;omega⟩
theorem specCodeW_fn: ∃cf:Int→Int→Int→Int→Int→Int×Bool,(∀o r a b n,spec_Code.f o r a b n=some (cf o r a b n))∧∀o r a b n,wordX (cf o r a b n).1:=by
 have h: ∀o r a b n,∃v:Int×Bool,spec_Code.f o r a b n=some v∧wordX v.1:=fun o r a b n=>by
  obtain ⟨v,t,e,w⟩:=specCode_w o r a b n
  exact ⟨(v,t),e,w⟩
 exact ⟨fun o r a b n=>(h o r a b n).choose,fun o r a b n=>(h o r a b n).choose_spec.1,fun o r a b n=>(h o r a b n).choose_spec.2⟩
theorem words_set {m:List Int} {i:Nat} {v:Int} (h: ∀x∈m,wordX x) (hv:wordX v): ∀x∈m.set i v,wordX x:=fun x hx=>by
 rcases List.mem_or_eq_of_mem_set hx with hx|rfl
 ·exact h x hx
 ·exact hv
theorem words_snoc {m:List Int} {v:Int} (h: ∀x∈m,wordX x) (hv:wordX v): ∀x∈m++[v],wordX x:=fun x hx=>by
 rcases List.mem_append.1 hx with hx|hx
 ·exact h x hx
 ·rw [List.mem_singleton] at hx;subst hx;exact hv
theorem drawMemW_l1 (c:List Int) (i s:Int) (T:List S109) (hT:T.length=4): ∀(k j:Nat) (m:List Int),m.length=24→(∀x∈m,wordX x)→j≤4→4<j+k→∃m',spec_l9DrawMem.l1 k m T (j:Int) c i s=some (m',i,s)∧m'.length=24∧∀x∈m',wordX x
 |0,j,m,_,_,h1,h2=>by omega
 |k+1,j,m,hm,hw,h1,h2=>by
  obtain ⟨cf,hcf,hcw⟩:=specCodeW_fn
  rw [spec_l9DrawMem.l1]
  by_cases h:j<4
  ·rw [if_pos (by omega),if_pos (by omega),hcf,Option.bind_some,if_pos (by omega),wrap_succ (by omega)]
   exact drawMemW_l1 c i s T hT k (j+1) _ (by simpa using hm) (words_set hw (hcw _ _ _ _ _)) (by omega) (by omega)
  ·rw [if_neg (by omega)];exact ⟨m,rfl,hm,hw⟩
theorem drawMemW_l2 (c:List Int) (i s:Int) (T:List S109) (hT:T.length=4): ∀(k j:Nat) (m:List Int),m.length=24→(∀x∈m,wordX x)→j≤4→4<j+k→∃m',spec_l9DrawMem.l2 k m T (j:Int) c i s=some (m',i,s)∧m'.length=24∧∀x∈m',wordX x
 |0,j,m,_,_,h1,h2=>by omega
 |k+1,j,m,hm,hw,h1,h2=>by
  obtain ⟨cf,hcf,hcw⟩:=specCodeW_fn
  rw [spec_l9DrawMem.l2]
  by_cases h:j<4
  ·rw [if_pos (by omega),if_pos (by omega),hcf,Option.bind_some,if_pos (by omega),wrap_succ (by omega)]
   exact drawMemW_l2 c i s T hT k (j+1) _ (by simpa using hm) (words_set hw (hcw _ _ _ _ _)) (by omega) (by omega)
  ·rw [if_neg (by omega)];exact ⟨m,rfl,hm,hw⟩
theorem drawMemW_l0 (c:List Int): ∀(k j:Nat) (m:List Int) (i s:Int),curOk c i→m.length=j→(∀x∈m,wordX x)→j≤24→40<j+k→∃m' i' s',spec_l9DrawMem.l0 k m (j:Int) c i s=some (m',i',s')∧m'.length=24∧(∀x∈m',wordX x)∧curOk c i'
 |0,j,m,i,s,_,_,_,h1,h2=>by omega
 |k+1,j,m,i,s,hc,hm,hw,h1,h2=>by
  obtain ⟨cf,hcf,hcw⟩:=specCodeW_fn
  have pick: ∀v:Int,v∈([0,1,5,65535]:List Int)→wordX v:=fun v hv=>by
   simp only [List.mem_cons,List.mem_nil_iff,or_false,List.not_mem_nil] at hv
   unfold wordX;omega
  rw [spec_l9DrawMem.l0]
  by_cases h:j<24
  ·obtain ⟨o,r,a,b,n,i1,s1,e1,c1⟩:=drawIns_ex c i s hc k (by omega)
   rw [if_pos (by omega),e1,Option.bind_some,hcf,Option.bind_some]
   obtain ⟨v2,i2,s2,e2,p2,c2⟩:=l1PickInt_ex c i1 s1 c1 [0,1,5,65535] (by simp) (by simp)
   obtain ⟨v3,i3,s3,e3,c3⟩:=l1Once_ex c i1 s1 c1 9 (by omega) (by omega)
   obtain ⟨v4,i4,s4,e4,p4,c4⟩:=l1PickInt_ex c i3 s3 c3 [0,1,5,65535] (by simp) (by simp)
   have next: ∀(x:Int) i s,wordX x→curOk c i→∃m' i' s',(if m.length<17592186044416 then (spec_l9DrawMem.l0 k (m++[x]) (wrap64 ((j:Int)+1)) c i s) else none)=some (m',i',s')∧m'.length=24∧(∀x∈m',wordX x)∧curOk c i':=by
    intro x i s hx hc
    rw [if_pos (by omega),wrap_succ (by omega)]
    exact drawMemW_l0 c k (j+1) _ i s hc (by simp;omega) (words_snoc hw hx) (by omega) (by omega)
   by_cases h15:(j:Int)>15
   ·rw [if_pos h15]
    simp only [e2,Option.bind_some];exact next _ _ _ (pick _ p2) c2
   ·rw [if_neg h15]
    simp only [e3,Option.bind_some]
    by_cases hv:v3=true
    ·rw [if_pos hv]
     simp only [e4,Option.bind_some];exact next _ _ _ (pick _ p4) c4
    ·rw [if_neg hv];exact next _ _ _ (hcw _ _ _ _ _) c3
  ·obtain ⟨v,i1,s1,e1,_,_,c1⟩:=l1Below_ex c i s hc 4 (by omega) (by omega)
   rw [if_neg (by omega),e1,Option.bind_some]
   by_cases h0:v=0
   ·obtain ⟨m',e,hl,hw'⟩:=drawMemW_l1 c i1 s1 [⟨1,1,0,0,1⟩,⟨6,2,0,1,20⟩,⟨10,3,2,1,0⟩,⟨8,0,0,0,1⟩] rfl k 0 m (by omega) hw (by omega) (by omega)
    rw [if_pos h0];exact ⟨_,_,_,e,hl,hw',c1⟩
   ·rw [if_neg h0]
    by_cases h1:v=1
    ·obtain ⟨m',e,hl,hw'⟩:=drawMemW_l2 c i1 s1 [⟨4,1,0,0,8⟩,⟨3,1,1,0,1⟩,⟨5,0,0,1,8⟩,⟨8,0,0,0,8⟩] rfl k 0 m (by omega) hw (by omega) (by omega)
     rw [if_pos h1];exact ⟨_,_,_,e,hl,hw',c1⟩
    ·rw [if_neg h1];exact ⟨_,_,_,rfl,by omega,hw,c1⟩
theorem drawMemW_ex (c:List Int) (i s:Int) (h:curOk c i) (k:Nat) (hk:50<k): ∃m i' s',spec_l9DrawMem.f k c i s=some (m,i',s')∧wordsB m 24=true∧curOk c i':=by
 obtain ⟨m,i1,s1,e,hl,hw,hc⟩:=drawMemW_l0 c k 0 [] i s h rfl (by simp) (by omega) (by omega)
 refine ⟨m,i1,s1,e,?_,hc⟩
 unfold wordsB
 rw [decide_eq_true (by omega),Bool.true_and,List.all_eq_true]
 exact fun x hx=>decide_eq_true (hw x hx)
theorem l9Addr_eq (x:Int):spec_l9Address.f x=some (x % 24):=by
 unfold spec_l9Address.f
 have hb:=tmod_bd x 24 (by omega)
 have hu:=tmod_up x 24 (by omega) (by omega)
 generalize x.tmod 24=t at hb hu ⊢
 rw [←hu]
 by_cases c:t<0
 ·rw [if_pos c,wrap_small (by omega) (by omega),tmod_pos _ _ (by omega),Int.emod_eq_of_lt (by omega) (by omega)]
 ·rw [if_neg c,tmod_pos _ _ (by omega),Int.add_emod_right,Int.emod_eq_of_lt (by omega) (by omega)]
theorem specHartNew_eq (x:Int):spec_HartNew.f x=some ([0,0,0,0],x % 24,0):=by
 unfold spec_HartNew.f
 rw [l9Addr_eq];rfl
theorem newHart_ok (x:Int):hartB [0,0,0,0] (x % 24) 0=true:=by
 have h1:0≤x % 24∧x % 24≤23:=by omega
 unfold hartB wordsB
 rw [decide_eq_true h1];rfl
theorem drawHart_l0 (c:List Int) (pc st:Int): ∀(d j:Nat) (r:List Int) (i s:Int) (k:Nat),curOk c i→r.length=4→j+d=4→d<k→∃r' p' t' i' s',spec_l9DrawHart.l0 k (j:Int) c i s r pc st=some (r',p',t',i',s')∧r'.length≤4∧curOk c i'
 |0,j,r,i,s,k,h,hr,hj,hk=>by
  obtain ⟨k,rfl⟩: ∃q,k=q+1:=⟨k-1,by omega⟩
  obtain ⟨v,i1,s1,e1,_,_,c1⟩:=l1Below_ex c i s h 12 (by omega) (by omega)
  obtain ⟨v2,i2,s2,e2,_,_,c2⟩:=l1Below_ex c i1 s1 c1 5 (by omega) (by omega)
  obtain ⟨v3,i3,s3,e3,_,c3⟩:=l1PickInt_ex c i1 s1 c1 [(-1),65536] (by simp) (by simp)
  obtain ⟨v4,i4,s4,e4,_,c4⟩:=l1PickInt_ex c i1 s1 c1 [(-1),24] (by simp) (by simp)
  simp only [spec_l9DrawHart.l0]
  rw [if_neg (by omega)]
  simp only [e1,e2,e3,e4,Option.bind_some]
  by_cases h0:v=0
  ·rw [if_pos h0];exact ⟨_,_,_,_,_,rfl,by omega,c2⟩
  ·rw [if_neg h0]
   by_cases h1:v=1
   ·rw [if_pos h1,if_pos (by omega)];exact ⟨_,_,_,_,_,rfl,by rw [List.length_set];omega,c3⟩
   ·rw [if_neg h1]
    by_cases h2:v=2
    ·rw [if_pos h2];exact ⟨_,_,_,_,_,rfl,by omega,c4⟩
    ·rw [if_neg h2]
     by_cases h3:v=3
     ·rw [if_pos h3,if_pos (by omega)];exact ⟨_,_,_,_,_,rfl,by rw [List.length_drop];omega,c1⟩
     ·rw [if_neg h3];exact ⟨_,_,_,_,_,rfl,by omega,c1⟩
 |d+1,j,r,i,s,k,h,hr,hj,hk=>by
  obtain ⟨k,rfl⟩: ∃q,k=q+1:=⟨k-1,by omega⟩
  obtain ⟨v,i1,s1,e1,_,c1⟩:=l1PickInt_ex c i s h [0,1,2,20,65535] (by simp) (by simp)
  simp only [spec_l9DrawHart.l0]
  rw [if_pos (by omega),e1,Option.bind_some,if_pos (by omega),if_pos (by omega),wrap_succ (by omega)]
  exact drawHart_l0 c pc st d (j+1) _ i1 s1 k c1 (by rw [List.length_set];exact hr) (by omega) (by omega)
theorem drawHart_ex (c:List Int) (i s:Int) (h:curOk c i) (k:Nat) (hk:10<k): ∃r p t i' s',spec_l9DrawHart.f k c i s=some (r,p,t,i',s')∧r.length≤4∧curOk c i':=by
 unfold spec_l9DrawHart.f
 obtain ⟨v,i1,s1,e1,_,_,c1⟩:=l1Below_ex c i s h 20 (by omega) (by omega)
 rw [e1,Option.bind_some,specHartNew_eq,Option.bind_some]
 exact drawHart_l0 c _ _ 4 0 _ i1 s1 k c1 rfl (by omega) (by omega)
def runOk (m:List Int) (hs:List S53) (o:List Int):Prop:=wordsB m 24=true∧(1≤hs.length∧hs.length≤3)∧(∀h∈hs,hartB h.f0 h.f1 h.f2=true)∧o.length≤100∧∀x∈o,0≤x∧x<(hs.length:Int)
theorem drawRun_l1 (c:List Int) (most:Int) (hmost:1≤most∧most≤100) (m:List Int) (hs:List S53) (hm:wordsB m 24=true) (hl:1≤hs.length∧hs.length≤3) (hh: ∀h∈hs,hartB h.f0 h.f1 h.f2=true): ∀(d j:Nat) (o:List Int) (i s:Int) (k:Nat),curOk c i→o.length=j→(∀x∈o,0≤x∧x<(hs.length:Int))→j+d=100→10+d<k→
  ∃o' i' s',spec_l18DrawRun.l1 k most m hs o (j:Int) c i s=some (m,hs,o',i',s')∧runOk m hs o'∧curOk c i'
 |d,j,o,i,s,k,h,hj,ho,hd,hk=>by
  obtain ⟨k,rfl⟩: ∃q,k=q+1:=⟨k-1,by omega⟩
  obtain ⟨v,i1,s1,e1,p1,q1,c1⟩:=l1Below_ex c i s h most (by omega) (by omega)
  simp only [spec_l18DrawRun.l1]
  rw [e1,Option.bind_some]
  dsimp only
  by_cases hc:(j:Int)<v
  ·match d,hd,hk with
   |0,hd,_=>omega
   |d+1,hd,hk=>
    obtain ⟨v2,i2,s2,e2,p2,q2,c2⟩:=l1Below_ex c i1 s1 c1 (hs.length:Int) (by omega) (by omega)
    rw [if_pos hc,e2,Option.bind_some]
    dsimp only
    rw [if_pos (by omega),wrap_succ (by omega)]
    exact drawRun_l1 c most hmost m hs hm hl hh d (j+1) _ i2 s2 k c2 (by rw [List.length_append,hj];rfl) (fun x hx=>by
     rcases List.mem_append.1 hx with hx|hx
     ·exact ho x hx
     ·rw [List.mem_singleton] at hx;subst hx;exact ⟨p2,q2⟩) (by omega) (by omega)
  ·rw [if_neg hc]
   exact ⟨_,_,_,rfl,⟨hm,hl,hh,by omega,ho⟩,c1⟩
theorem drawRun_l0 (c:List Int) (most:Int) (hmost:1≤most∧most≤100) (m:List Int) (hm:wordsB m 24=true): ∀(d j:Nat) (hs:List S53) (i s:Int) (k:Nat),curOk c i→hs.length=j→(∀h∈hs,hartB h.f0 h.f1 h.f2=true)→j+d=3→300+d<k→
  ∃hs' o' i' s',spec_l18DrawRun.l0 k most m hs (j:Int) c i s=some (m,hs',o',i',s')∧runOk m hs' o'∧curOk c i'
 |d,j,hs,i,s,k,h,hj,hh,hd,hk=>by
  obtain ⟨k,rfl⟩: ∃q,k=q+1:=⟨k-1,by omega⟩
  obtain ⟨v,i1,s1,e1,p1,q1,c1⟩:=l1Below_ex c i s h 3 (by omega) (by omega)
  simp only [spec_l18DrawRun.l0]
  rw [e1,Option.bind_some]
  dsimp only
  rw [wrap_small (x:=1+v) (by omega) (by omega)]
  by_cases hc:(j:Int)<1+v
  ·match d,hd,hk with
   |0,hd,_=>omega
   |d+1,hd,hk=>
    obtain ⟨r,p,t,i2,s2,e2,hr,c2⟩:=drawHart_ex c i1 s1 c1 k (by omega)
    rw [if_pos hc,e2,Option.bind_some]
    dsimp only
    rw [specHartOk_eq r p t (by omega) k (by omega),Option.bind_some]
    have more: ∀(z:S53) (i s:Int),hartB z.f0 z.f1 z.f2=true→curOk c i→∃hs' o' i' s',spec_l18DrawRun.l0 k most m (hs++[z]) ((j+1:Nat):Int) c i s=some (m,hs',o',i',s')∧runOk m hs' o'∧curOk c i':=fun z i s hz hci=>
     drawRun_l0 c most hmost m hm d (j+1) _ i s k hci (by rw [List.length_append,hj];rfl) (fun x hx=>by
      rcases List.mem_append.1 hx with hx|hx
      ·exact hh x hx
      ·rw [List.mem_singleton] at hx;subst hx;exact hz) (by omega) (by omega)
    by_cases hb:hartB r p t=true
    ·rw [if_pos hb,if_pos (by omega),wrap_succ (by omega)]
     exact more _ _ _ hb c2
    ·obtain ⟨v3,i3,s3,e3,_,_,c3⟩:=l1Below_ex c i2 s2 c2 20 (by omega) (by omega)
     rw [if_neg hb,e3,Option.bind_some,specHartNew_eq,Option.bind_some,if_pos (by omega),wrap_succ (by omega)]
     exact more _ _ _ (newHart_ok _) c3
  ·rw [if_neg hc]
   obtain ⟨o',i2,s2,e2,hok,c2⟩:=drawRun_l1 c most hmost m hs hm (by omega) hh 100 0 [] i1 s1 k c1 rfl (by simp) (by omega) (by omega)
   exact ⟨_,_,_,_,e2,hok,c2⟩
theorem drawRun_ex (c:List Int) (i s:Int) (h:curOk c i) (most:Int) (hmost:1≤most∧most≤100) (k:Nat) (hk:400<k): ∃m hs o i' s',spec_l18DrawRun.f k c i s most=some (m,hs,o,i',s')∧runOk m hs o∧curOk c i':=by
 unfold spec_l18DrawRun.f
 obtain ⟨m,i1,s1,e1,hm,c1⟩:=drawMemW_ex c i s h k (by omega)
 rw [e1,Option.bind_some]
 dsimp only
 obtain ⟨hs,o,i2,s2,e2,hok,c2⟩:=drawRun_l0 c most hmost m hm 3 0 [] i1 s1 k c1 rfl (by simp) (by omega) (by omega)
 exact ⟨_,_,_,_,_,e2,hok,c2⟩
theorem implEventOf_eq (m:List Int) (h:Hh) (who:Int) (hm:m.length=24) (hh:hB h=true) (k:Nat) (hk:20<k):impl_eventOf.f k m h.f0 h.f1 h.f2 who=some ((eventV m h who).f0,(eventV m h who).f1,(eventV m h who).f2,(eventV m h who).f3,(eventV m h who).f4):=by
 obtain ⟨p1,p2,p3,p4⟩:=hartB_parts hh
 unfold impl_eventOf.f eventV
 rw [if_pos p3.1,if_pos (by omega),implDecode_eq,Option.bind_some,implTarget_eq,Option.bind_some]
 have eT:targetV (decodeV (rd m h.f1)).1 (decodeV (rd m h.f1)).2.1 (decodeV (rd m h.f1)).2.2.1 (decodeV (rd m h.f1)).2.2.2.1 (decodeV (rd m h.f1)).2.2.2.2.1 h.f0=tgtV m h:=rfl
 rw [eT]
 have t:tgtV m h= -1∨0≤tgtV m h∧tgtV m h≤23:=tgt_range _ _ _ _ _ _
 rcases t with t|t
 ·have ht:tgtV m h<0:=by omega
  simp only [if_pos ht]
 ·have e:gotV m h=rd m (tgtV m h):=by
   show (if 0≤tgtV m h then rd m (tgtV m h) else 0)=_
   rw [if_pos t.1]
  have ew:workV h.f0 h.f1 h.f2 (decodeV (rd m h.f1)).1 (decodeV (rd m h.f1)).2.1 (decodeV (rd m h.f1)).2.2.1 (decodeV (rd m h.f1)).2.2.2.1 (decodeV (rd m h.f1)).2.2.2.2.1 (rd m (tgtV m h))=wkV m h:=by unfold wkV;rw [e]
  have ht: ¬tgtV m h<0:=by omega
  have h0:tgtV m h<(m.length:Int):=by omega
  simp only [if_neg ht,if_pos t.1,if_pos h0]
  rw [implWork_eq _ _ _ _ _ _ _ _ _ (by omega) k (by omega),Option.bind_some,ew]
  by_cases c5:(decodeV (rd m h.f1)).1=5
  ·simp only [if_pos c5]
  ·simp only [if_neg c5]
theorem implTrace_eq (m:List Int) (hs:List Hh) (o:List Int) (w:wordsB m 24=true) (hn:hs.length≤2097152) (hb:shortH hs) (k:Nat) (hk:3000002<k):
  impl_Trace.f k m hs o=some (if o.length≤2000 then traceV (m,hs) o else []):=by
 have l24:=wordsB_24 w
 unfold impl_Trace.f
 rw [Option.bind_some]
 obtain ⟨k,rfl⟩: ∃j,k=j+2:=⟨k-2,by omega⟩
 by_cases ho:o.length≤2000
 ·obtain ⟨C,hC⟩: ∃C:Nat,C=2200000:=⟨_,rfl⟩
  rw [if_neg (by omega),memOk_eq m (by omega) _ (by omega),Option.bind_some,w,Bool.not_true,impl_Trace.j0,if_neg (by simp)]
  unfold slices_Clone_int_int.f
  rw [if_pos (by omega),Option.bind_some,copyHarts_eq hs hn hb _ (by omega),Option.bind_some,if_pos ho]
  have h:=for_st o.length (fun k' i (s:List Ev×List Int×List Hh)=>impl_Trace.l0 (2*k'+C) s.2.1 s.2.2 s.1 o (o.length:Int) (i:Int)) (fun i=>(traceV (m,hs) (o.take i),runV m hs (o.take i))) (traceV (m,hs) o) ?_ ?_ ((k+2-C) / 2-1) 0 (Nat.zero_le _) (by omega)
  ·obtain ⟨d,hd⟩: ∃d,k+1=2*((k+2-C) / 2-1)+C+d:=⟨k+1-(2*((k+2-C) / 2-1)+C),by omega⟩
   rw [hd]
   clear hd
   simp only [List.take_zero] at h
   induction d with
   |zero=>exact h
   |succ d ih=>exact (impl_Trace.mono_l _).2.1 _ _ _ _ _ _ _ ih
  ·intro k' i hi
   rw [show 2*(k'+1)+C=(2*k'+C)+1+1 by omega]
   have e:runV m hs (o.take (i+1))=nextV (runV m hs (o.take i)) o[i]:=by rw [←snoc_step o i hi,runV_snoc]
   have et:traceV (m,hs) (o.take (i+1))=traceV (m,hs) (o.take i)++ev1 (runV m hs (o.take i)) o[i]:=by
    rw [←snoc_step o i hi,traceV_snoc];rfl
   have tl:=traceV_len (o.take i) (m,hs)
   rw [List.length_take] at tl
   have hl:=runV_len m hs (o.take i)
   have hsh:=runV_short m hs (o.take i) hb
   dsimp only
   rw [e,et]
   generalize traceV (m,hs) (o.take i)=T at tl ⊢
   generalize runV m hs (o.take i)=s at hl hsh ⊢
   simp only [impl_Trace.l0]
   rw [if_pos (by omega),if_pos (by omega),if_pos (by omega),rd_nat o i hi,from_eq,Option.bind_some,wrap_small (by omega) (by omega)]
   unfold nextV ev1
   by_cases c:0≤o[i]∧o[i]≤(s.2.length:Int)-1
   ·have hsi:=hsh _ (rdH_mem _ _ c.1 (by omega:o[i]<(s.2.length:Int)))
    rw [if_pos (decide_eq_true c),if_pos c.1,if_pos (by omega),implGoes_eq _ hsi _ (by omega),Option.bind_some]
    by_cases g:goB (rd_T53 s.2 o[i])=true
    ·have g2:hB (rd_T53 s.2 o[i])=true:=by unfold goB at g;rw [Bool.and_eq_true] at g;exact g.1
     have mg:mayGo s.2 o[i]:=⟨c.1,by omega,g⟩
     simp only [impl_Trace.j2]
     rw [if_pos g,if_pos c.1,if_pos (by omega),implEventOf_eq _ _ _ (by omega) g2 _ (by omega),Option.bind_some,if_pos (by omega),implStep_eq _ _ (by omega) g2 _ (by omega),Option.bind_some,if_pos mg,if_pos mg,wrap_succ (by omega)]
    ·have mg: ¬mayGo s.2 o[i]:=fun q=>g q.2.2
     simp only [impl_Trace.j2]
     rw [if_neg g,if_neg mg,if_neg mg,List.append_nil,wrap_succ (by omega)]
   ·simp only [impl_Trace.j2]
    rw [if_neg (by simpa using c),if_neg (by simp),if_neg (fun x=>c ⟨x.1,by have:=x.2.1;omega⟩),if_neg (fun x=>c ⟨x.1,by have:=x.2.1;omega⟩),List.append_nil,wrap_succ (by omega)]
  ·intro k'
   rw [show 2*(k'+1)+C=(2*k'+C)+1+1 by omega,List.take_of_length_le (Nat.le_refl _)]
   rw [impl_Trace.l0,if_neg (by omega)]
 ·rw [if_pos (by omega),impl_Trace.j0,if_pos rfl,if_neg ho]
def watchV (st ce:List Int):List Int×List Hh→List Int→Nat→(List Int×List Hh)×Int×Int
 |s,[],u=>(s,(u:Int),0)
 |s,i :: o,u=>if mayGo s.2 i then (if 0<u∧(rd_T53 s.2 i).f1∈st then (s,(u:Int),1) else if (eventV s.1 (rd_T53 s.2 i) i).f4≥0∧(eventV s.1 (rd_T53 s.2 i) i).f2∈ce then (nextV s i,((u+1:Nat):Int),2) else watchV st ce (nextV s i) o (u+1)) else watchV st ce s o (u+1)
def runTo4 (r:(List Int×List Hh)×Int×Int):List Int×List Hh×Int×Int:=(r.1.1,r.1.2,r.2.1,r.2.2)
def runToV (m:List Int) (hs:List Hh) (o st ce:List Int):(List Int×List Hh)×Int×Int:=if o.length≤2000∧watchB st ce=true then (if wordsB m 24=true then watchV st ce (m,hs) o 0 else ((m,hs),(o.length:Int),0)) else ((m,hs),0,0)
theorem implRunTo_l0 (o st ce:List Int) (ho:o.length≤2000) (hst:st.length≤1000) (hce:ce.length≤1000): ∀(d i:Nat) (s:List Int×List Hh) (k:Nat),i+d=o.length→wordsB s.1 24=true→s.2.length≤2097152→shortH s.2→4*d+2200000<k→
  impl_RunTo.l0 k s.1 s.2 o true o (o.length:Int) (i:Int) st ce=some (runTo4 (watchV st ce s (o.drop i) i)):=by
 intro d
 induction d with
 |zero=>
  intro i s k hi hw hn hb hk
  obtain ⟨k,rfl⟩: ∃q,k=q+1:=⟨k-1,by omega⟩
  have e:i=o.length:=by omega
  subst e
  rw [impl_RunTo.l0,if_neg (by omega),List.drop_eq_nil_of_le (Nat.le_refl _)];rfl
 |succ d ih=>
  intro i s k hi hw hn hb hk
  obtain ⟨k,rfl⟩: ∃q,k=q+4:=⟨k-4,by omega⟩
  have hio:i<o.length:=by omega
  have l24:=wordsB_24 hw
  rw [List.drop_eq_getElem_cons hio,watchV]
  rw [impl_RunTo.l0,if_pos (by omega),if_pos (by omega),if_pos (by omega),if_pos rfl,rd_nat o i hio,from_eq,Option.bind_some,wrap_small (by omega) (by omega)]
  have next:impl_RunTo.l0 (k+2) s.1 s.2 o true o (o.length:Int) ((i+1:Nat):Int) st ce=some (runTo4 (watchV st ce s (o.drop (i+1)) (i+1))):=ih (i+1) s (k+2) (by omega) hw hn hb (by omega)
  have hw2:=nextV_words s o[i] hw
  have hn2:=(nextV_len s o[i]).2
  have hb2:=nextV_short s o[i] hb
  have next2:impl_RunTo.l0 k (nextV s o[i]).1 (nextV s o[i]).2 o true o (o.length:Int) ((i+1:Nat):Int) st ce=some (runTo4 (watchV st ce (nextV s o[i]) (o.drop (i+1)) (i+1))):=ih (i+1) (nextV s o[i]) k (by omega) hw2 (by omega) hb2 (by omega)
  by_cases c:0≤o[i]∧o[i]≤(s.2.length:Int)-1
  ·have hsi:=hb _ (rdH_mem _ _ c.1 (by omega:o[i]<(s.2.length:Int)))
   rw [if_pos (decide_eq_true c),if_pos c.1,if_pos (by omega),implGoes_eq _ hsi _ (by omega),Option.bind_some]
   by_cases g:goB (rd_T53 s.2 o[i])=true
   ·have g2:hB (rd_T53 s.2 o[i])=true:=by unfold goB at g;rw [Bool.and_eq_true] at g;exact g.1
    have mg:mayGo s.2 o[i]:=⟨c.1,by omega,g⟩
    have hj3:impl_RunTo.j3 (k+2) s.1 s.2 o true (i:Int) o[i] o (o.length:Int) (i:Int) false st ce=some (runTo4 (if (eventV s.1 (rd_T53 s.2 o[i]) o[i]).f4≥0∧(eventV s.1 (rd_T53 s.2 o[i]) o[i]).f2∈ce then (nextV s o[i],((i+1:Nat):Int),2) else watchV st ce (nextV s o[i]) (o.drop (i+1)) (i+1))):=by
     have en:nextV s o[i]=((stepV s.1 (rd_T53 s.2 o[i])).1,s.2.set (o[i]).toNat (stepV s.1 (rd_T53 s.2 o[i])).2):=by unfold nextV;rw [if_pos mg]
     rw [impl_RunTo.j3,if_neg (by simp),if_pos c.1,if_pos (by omega),implEventOf_eq _ _ _ l24 g2 _ (by omega),Option.bind_some,implStep_eq _ _ l24 g2 _ (by omega),Option.bind_some,Option.bind_some]
     dsimp only
     have en1:(stepV s.1 (rd_T53 s.2 o[i])).1=(nextV s o[i]).1:=by rw [en]
     have en2:s.2.set (o[i]).toNat (stepV s.1 (rd_T53 s.2 o[i])).2=(nextV s o[i]).2:=by rw [en]
     have en3:(⟨(stepV s.1 (rd_T53 s.2 o[i])).2.f0,(stepV s.1 (rd_T53 s.2 o[i])).2.f1,(stepV s.1 (rd_T53 s.2 o[i])).2.f2⟩:Hh)=(stepV s.1 (rd_T53 s.2 o[i])).2:=rfl
     rw [en3,en1,en2]
     by_cases p:(eventV s.1 (rd_T53 s.2 o[i]) o[i]).f4≥0
     ·rw [if_pos p,contains_eq ce _ (by omega) _ (by omega),Option.bind_some,impl_RunTo.j4]
      by_cases q:(eventV s.1 (rd_T53 s.2 o[i]) o[i]).f2∈ce
      ·rw [if_pos (decide_eq_true q),if_pos ⟨p,q⟩,wrap_succ (by omega)];rfl
      ·rw [if_neg (by simpa using q),if_neg (fun x=>q x.2),wrap_succ (by omega)];exact next2
     ·rw [if_neg p,if_neg (fun x=>p x.1),impl_RunTo.j4,if_neg (by simp),wrap_succ (by omega)];exact next2
    rw [g,Bool.not_true,impl_RunTo.j2,if_neg (by simp),if_pos mg]
    by_cases u:(i:Int)>0
    ·rw [if_pos u,if_pos c.1,if_pos (by omega),contains_eq st _ (by omega) _ (by omega),Option.bind_some]
     by_cases z:(rd_T53 s.2 o[i]).f1∈st
     ·rw [decide_eq_true z,impl_RunTo.j3,if_pos rfl,if_pos ⟨by omega,z⟩];rfl
     ·rw [decide_eq_false z,if_neg (fun x=>z x.2)];exact hj3
    ·rw [if_neg u,if_neg (fun x=>by have:=x.1;omega)];exact hj3
   ·have mg: ¬mayGo s.2 o[i]:=fun q=>g q.2.2
    rw [Bool.eq_false_iff.2 g,Bool.not_false,impl_RunTo.j2,if_pos rfl,if_neg mg,wrap_succ (by omega)];exact next
  ·rw [if_neg (by simpa using c),impl_RunTo.j2,if_pos rfl,if_neg (fun x=>c ⟨x.1,by have:=x.2.1;omega⟩),wrap_succ (by omega)];exact next
theorem implRunTo_no (m:List Int) (hs:List Hh) (o st ce:List Int) (ho:o.length≤2000): ∀(d i k:Nat),i+d=o.length→2*d+1<k→impl_RunTo.l0 k m hs o false o (o.length:Int) (i:Int) st ce=some (m,hs,(o.length:Int),0)
 |0,i,k,hi,hk=>by
  obtain ⟨k,rfl⟩: ∃q,k=q+1:=⟨k-1,by omega⟩
  rw [impl_RunTo.l0,if_neg (by omega)]
 |d+1,i,k,hi,hk=>by
  obtain ⟨k,rfl⟩: ∃q,k=q+2:=⟨k-2,by omega⟩
  rw [impl_RunTo.l0,if_pos (by omega),if_pos (by omega),if_pos (by omega),if_neg (by simp),impl_RunTo.j2,if_pos rfl,wrap_succ (by omega)]
  exact implRunTo_no m hs o st ce ho d (i+1) k (by omega) (by omega)
theorem watchB_len {st ce:List Int} (h:watchB st ce=true):st.length≤24∧ce.length≤24:=by
 unfold watchB at h
 simp only [Bool.and_eq_true,decide_eq_true_eq] at h
 exact ⟨h.1.1,h.2.1⟩
theorem implRunTo_eq (m:List Int) (hs:List Hh) (o st ce:List Int) (hm:m.length≤1048576) (hn:hs.length≤2097152) (hb:shortH hs) (hst:st.length≤1048576) (hce:ce.length≤1048576) (k:Nat) (hk:4300000<k):impl_RunTo.f k m hs o st ce=some (runTo4 (runToV m hs o st ce)):=by
 obtain ⟨k,rfl⟩: ∃q,k=q+1:=⟨k-1,by omega⟩
 have jt:impl_RunTo.j0 (k+1) m hs o true st ce=some (m,hs,0,0):=by rw [impl_RunTo.j0,if_pos rfl]
 unfold impl_RunTo.f slices_Clone_int_int.f runToV
 rw [if_pos (by omega),Option.bind_some,copyHarts_eq hs hn hb _ (by omega),Option.bind_some]
 by_cases ho:o.length≤2000
 ·rw [if_neg (by omega),implWatchOk_eq st ce hst hce _ (by omega),Option.bind_some]
  by_cases w:watchB st ce=true
  ·obtain ⟨w1,w2⟩:=watchB_len w
   rw [if_pos (show o.length≤2000∧watchB st ce=true from ⟨ho,w⟩),w,Bool.not_true,impl_RunTo.j0,if_neg (by simp),memOk_eq m (by omega) _ (by omega),Option.bind_some]
   cases hw:wordsB m 24 with
   |true=>rw [if_pos rfl];exact implRunTo_l0 o st ce ho (by omega) (by omega) o.length 0 (m,hs) k (by omega) hw hn hb (by omega)
   |false=>rw [if_neg (by simp)];exact implRunTo_no m hs o st ce ho o.length 0 k (by omega) (by omega)
  ·rw [if_neg (fun x=>w x.2),Bool.eq_false_iff.2 w,Bool.not_false,jt];rfl
 ·rw [if_pos (by omega),if_neg (fun x=>ho x.1),jt];rfl
theorem specFlat_l0 (hs:List Hh) (o m:List Int) (hn:hs.length≤2097152) (hb:shortH hs): ∀(d i k:Nat),i+d=hs.length→d<k→spec_FlatRun.l0 k hs o m (hs.take i) (i:Int)=spec_FlatRun.l1 (k-d-1) o m hs 0
 |0,i,k,hi,hk=>by
  obtain ⟨k,rfl⟩: ∃q,k=q+1:=⟨k-1,by omega⟩
  rw [spec_FlatRun.l0,if_neg (by omega),List.take_of_length_le (by omega),show k+1-0-1=k by omega]
 |d+1,i,k,hi,hk=>by
  obtain ⟨k,rfl⟩: ∃q,k=q+1:=⟨k-1,by omega⟩
  have hil:i<hs.length:=by omega
  have hx:=hb _ (List.getElem_mem hil)
  rw [spec_FlatRun.l0,if_pos (by omega),if_pos (by omega),rdH hs i hil]
  unfold spec_l9Copy.f
  rw [Option.bind_some,if_pos (by simp;omega),Option.bind_some,List.nil_append,if_pos (by rw [List.length_take];omega),wrap_succ (by omega)]
  have e:hs.take i++[(⟨(hs[i]).f0,(hs[i]).f1,(hs[i]).f2⟩:Hh)]=hs.take (i+1):=snoc_step hs i hil
  dsimp only
  rw [e,specFlat_l0 hs o m hn hb d (i+1) k (by omega) (by omega)]
  congr 1;omega
theorem specFlat_nil (m:List Int) (hs:List Hh) (hm:m.length≤1048576) (hn:hs.length≤2097152) (hb:shortH hs) (k:Nat) (hk:2097200<k):spec_FlatRun.f k m hs []=some (m,hs):=by
 unfold spec_FlatRun.f
 rw [Option.bind_some,if_pos (by simp;omega),List.nil_append]
 have h:=specFlat_l0 hs [] m hn hb hs.length 0 k (by omega) (by omega)
 rw [List.take_zero] at h
 refine h.trans ?_
 obtain ⟨q,hq⟩: ∃q,k-hs.length-1=q+2:=⟨k-hs.length-3,by omega⟩
 rw [hq,spec_FlatRun.l1,if_neg (by simp),spec_FlatRun.j2,if_neg (by simp)]
theorem specFlat_one (m:List Int) (hs:List Hh) (x:Int) (hm:m.length≤1048576) (hn:hs.length≤1048576) (hb:shortH hs) (hx:0≤x∧x<(hs.length:Int)) (k:Nat) (hk:4200000<k):spec_FlatRun.f k m hs [x]=some ((flatV m (rd_T53 hs x)).1,hs.set x.toNat (flatV m (rd_T53 hs x)).2):=by
 unfold spec_FlatRun.f
 rw [Option.bind_some,if_pos (by simp;omega),List.nil_append]
 have h:=specFlat_l0 hs [x] m (by omega) hb hs.length 0 k (by omega) (by omega)
 rw [List.take_zero] at h
 refine h.trans ?_
 obtain ⟨q,hq⟩: ∃q,k-hs.length-1=q+4:=⟨k-hs.length-5,by omega⟩
 have hsi:=hb _ (rdH_mem _ _ hx.1 hx.2)
 have r0:rd [x] 0=x:=rfl
 have hd:decide (0≤x∧x≤(hs.length:Int)-1)=true:=decide_eq_true ⟨hx.1,by omega⟩
 rw [hq,spec_FlatRun.l1,if_pos (by simp),show decide ((([x]:List Int).length:Int)≤2000)=true from rfl,spec_FlatRun.j2,if_pos rfl,if_pos (by omega),if_pos (by simp),r0,wrap_small (by omega) (by omega),l1In_eq,Option.bind_some,hd,if_pos rfl,if_pos hx.1,if_pos hx.2,specFlatStep_eq _ _ (by omega) hsi _ (by omega),Option.bind_some]
 dsimp only
 rw [show wrap64 (0+1)=1 from by unfold wrap64;omega,spec_FlatRun.l1,if_neg (by simp),spec_FlatRun.j2,if_neg (by simp)]
theorem meets_nil (l:List Int) (hl:l.length≤1048576): ∀(d i k:Nat),i+d=l.length→2*d+1<k→spec_l19Meets.l0 k l [] (i:Int)=some false
 |0,i,k,hi,hk=>by
  obtain ⟨k,rfl⟩: ∃q,k=q+1:=⟨k-1,by omega⟩
  rw [spec_l19Meets.l0,if_neg (by omega)]
 |d+1,i,k,hi,hk=>by
  obtain ⟨k,rfl⟩: ∃q,k=q+2:=⟨k-2,by omega⟩
  rw [spec_l19Meets.l0,if_pos (by omega),spec_l19Meets.l1,if_neg (by simp),wrap_succ (by omega)]
  exact meets_nil l hl d (i+1) k (by omega) (by omega)
theorem meets_one (l:List Int) (x:Int) (hl:l.length≤1048576): ∀(d i k:Nat),i+d=l.length→3*d+1<k→spec_l19Meets.l0 k l [x] (i:Int)=some (decide (x∈l.drop i))
 |0,i,k,hi,hk=>by
  obtain ⟨k,rfl⟩: ∃q,k=q+1:=⟨k-1,by omega⟩
  rw [spec_l19Meets.l0,if_neg (by omega),List.drop_eq_nil_of_le (by omega)];rfl
 |d+1,i,k,hi,hk=>by
  obtain ⟨k,rfl⟩: ∃q,k=q+3:=⟨k-3,by omega⟩
  have hil:i<l.length:=by omega
  have r0:rd [x] 0=x:=rfl
  rw [spec_l19Meets.l0,if_pos (by omega),spec_l19Meets.l1,if_pos (by simp),if_pos (by omega),if_pos (by omega),if_pos (by omega),rd_nat l i hil,r0,List.drop_eq_getElem_cons hil]
  by_cases c:l[i]=x
  ·rw [if_pos c,decide_eq_true (by rw [c];simp)]
  ·have e:decide (x∈l[i] :: l.drop (i+1))=decide (x∈l.drop (i+1)):=by
    have:(x∈l[i] :: l.drop (i+1))↔x∈l.drop (i+1):=by
     rw [List.mem_cons];exact ⟨fun h=>h.resolve_left (fun e=>c e.symm),.inr⟩
    exact decide_eq_decide.2 this
   rw [if_neg c,show wrap64 (0+1)=1 from by unfold wrap64;omega,spec_l19Meets.l1,if_neg (by simp),wrap_succ (by omega),e]
   exact meets_one l x hl d (i+1) k (by omega) (by omega)
theorem meets1_eq (l:List Int) (x:Int) (hl:l.length≤1048576) (k:Nat) (hk:3200000<k):spec_l19Meets.f k l [x]=some (decide (x∈l)):=by
 have:=meets_one l x hl l.length 0 k (by omega) (by omega)
 rwa [List.drop_zero] at this
theorem meets0_eq (l:List Int) (hl:l.length≤1048576) (k:Nat) (hk:3200000<k):spec_l19Meets.f k l []=some false:=meets_nil l hl l.length 0 k (by omega) (by omega)
theorem specRunTo_l0 (o st ce:List Int) (ho:o.length≤2000) (hst:st.length≤1000) (hce:ce.length≤1000): ∀(d i:Nat) (s:List Int×List Hh) (k:Nat),i+d=o.length→wordsB s.1 24=true→s.2.length≤1048576→shortH s.2→2*d+4300000<k→
  spec_RunTo.l0 k o s.1 s.2 (i:Int) st ce=some (runTo4 (watchV st ce s (o.drop i) i)):=by
 intro d
 induction d with
 |zero=>
  intro i s k hi hw hn hb hk
  obtain ⟨k,rfl⟩: ∃q,k=q+1:=⟨k-1,by omega⟩
  have e:i=o.length:=by omega
  subst e
  rw [spec_RunTo.l0,if_neg (by omega),List.drop_eq_nil_of_le (Nat.le_refl _)];rfl
 |succ d ih=>
  intro i s k hi hw hn hb hk
  obtain ⟨k,rfl⟩: ∃q,k=q+2:=⟨k-2,by omega⟩
  have hio:i<o.length:=by omega
  have l24:=wordsB_24 hw
  rw [List.drop_eq_getElem_cons hio,watchV]
  rw [spec_RunTo.l0,if_pos (by omega),if_pos (by omega),rd_nat o i hio,wrap_small (by omega) (by omega),l1In_eq,Option.bind_some]
  have next:spec_RunTo.l0 (k+1) o s.1 s.2 ((i+1:Nat):Int) st ce=some (runTo4 (watchV st ce s (o.drop (i+1)) (i+1))):=ih (i+1) s (k+1) (by omega) hw hn hb (by omega)
  have hw2:=nextV_words s o[i] hw
  have hn2:=(nextV_len s o[i]).2
  have hb2:=nextV_short s o[i] hb
  have next2:spec_RunTo.l0 k o (nextV s o[i]).1 (nextV s o[i]).2 ((i+1:Nat):Int) st ce=some (runTo4 (watchV st ce (nextV s o[i]) (o.drop (i+1)) (i+1))):=ih (i+1) (nextV s o[i]) k (by omega) hw2 (by omega) hb2 (by omega)
  by_cases c:0≤o[i]∧o[i]≤(s.2.length:Int)-1
  ·have hsi:=hb _ (rdH_mem _ _ c.1 (by omega:o[i]<(s.2.length:Int)))
   rw [if_pos (decide_eq_true c),if_pos c.1,if_pos (by omega),specEventOf_eq _ _ _ (by omega) hsi _ (by omega),Option.bind_some]
   by_cases g:goB (rd_T53 s.2 o[i])=true
   ·have mg:mayGo s.2 o[i]:=⟨c.1,by omega,g⟩
    have en:((flatV s.1 (rd_T53 s.2 o[i])).1,s.2.set (o[i]).toNat (flatV s.1 (rd_T53 s.2 o[i])).2)=nextV s o[i]:=by unfold nextV flatV;rw [if_pos ⟨hw,g⟩,if_pos mg]
    have en1:=congrArg Prod.fst en
    have en2:=congrArg Prod.snd en
    dsimp only at en1 en2
    have hp:(eventV s.1 (rd_T53 s.2 o[i]) o[i]).f1=(rd_T53 s.2 o[i]).f1:=by unfold eventV;split<;>rfl
    have hj2:spec_RunTo.j2 (k+1) o s.1 s.2 (i:Int) o[i] false st ce (eventV s.1 (rd_T53 s.2 o[i]) o[i]).f0 (eventV s.1 (rd_T53 s.2 o[i]) o[i]).f1 (eventV s.1 (rd_T53 s.2 o[i]) o[i]).f2 (eventV s.1 (rd_T53 s.2 o[i]) o[i]).f3 (eventV s.1 (rd_T53 s.2 o[i]) o[i]).f4=some (runTo4 (if (eventV s.1 (rd_T53 s.2 o[i]) o[i]).f4≥0∧(eventV s.1 (rd_T53 s.2 o[i]) o[i]).f2∈ce then (nextV s o[i],((i+1:Nat):Int),2) else watchV st ce (nextV s o[i]) (o.drop (i+1)) (i+1))):=by
     rw [spec_RunTo.j2,if_neg (by simp),specFlat_one s.1 s.2 o[i] (by omega) hn hb ⟨c.1,by omega⟩ _ (by omega),Option.bind_some]
     dsimp only
     rw [en1,en2]
     unfold spec_WritesOf.f
     by_cases p:(eventV s.1 (rd_T53 s.2 o[i]) o[i]).f4≥0
     ·rw [if_pos p,Option.bind_some,meets1_eq ce _ (by omega) _ (by omega),Option.bind_some]
      by_cases q:(eventV s.1 (rd_T53 s.2 o[i]) o[i]).f2∈ce
      ·rw [if_pos (decide_eq_true q),if_pos ⟨p,q⟩,wrap_succ (by omega)];rfl
      ·rw [if_neg (by simpa using q),if_neg (fun x=>q x.2),wrap_succ (by omega)];exact next2
     ·rw [if_neg p,Option.bind_some,meets0_eq ce (by omega) _ (by omega),Option.bind_some,if_neg (by simp),if_neg (fun x=>p x.1),wrap_succ (by omega)];exact next2
    rw [if_pos (show wordsB s.1 24=true∧goB (rd_T53 s.2 o[i])=true from ⟨hw,g⟩),if_pos rfl,if_pos mg]
    dsimp only
    by_cases u:(i:Int)>0
    ·rw [if_pos u,meets1_eq st _ (by omega) _ (by omega),Option.bind_some,hp]
     by_cases z:(rd_T53 s.2 o[i]).f1∈st
     ·rw [decide_eq_true z,spec_RunTo.j2,if_pos rfl,if_pos ⟨by omega,z⟩];rfl
     ·rw [decide_eq_false z,if_neg (fun x=>z x.2)];rw [hp] at hj2;exact hj2
    ·rw [if_neg u,if_neg (fun x=>by have:=x.1;omega)];exact hj2
   ·have mg: ¬mayGo s.2 o[i]:=fun q=>g q.2.2
    rw [if_neg (show ¬(wordsB s.1 24=true∧goB (rd_T53 s.2 o[i])=true) from fun q=>g q.2),if_neg (by simp),if_neg mg,wrap_succ (by omega)];exact next
  ·rw [if_neg (by simpa using c),if_neg (fun x=>c ⟨x.1,by have:=x.2.1;omega⟩),wrap_succ (by omega)];exact next
theorem specRunTo_no (m:List Int) (hs:List Hh) (o st ce:List Int) (ho:o.length≤2000) (hm:m.length≤1048576) (hw:wordsB m 24=false) (hn:hs.length≤1048576) (hb:shortH hs): ∀(d i k:Nat),i+d=o.length→d+4300000<k→spec_RunTo.l0 k o m hs (i:Int) st ce=some (m,hs,(o.length:Int),0)
 |0,i,k,hi,hk=>by
  obtain ⟨k,rfl⟩: ∃q,k=q+1:=⟨k-1,by omega⟩
  rw [spec_RunTo.l0,if_neg (by omega)]
 |d+1,i,k,hi,hk=>by
  obtain ⟨k,rfl⟩: ∃q,k=q+1:=⟨k-1,by omega⟩
  have hio:i<o.length:=by omega
  have ih:=specRunTo_no m hs o st ce ho hm hw hn hb d (i+1) k (by omega) (by omega)
  rw [spec_RunTo.l0,if_pos (by omega),if_pos (by omega),rd_nat o i hio,wrap_small (by omega) (by omega),l1In_eq,Option.bind_some]
  by_cases c:0≤o[i]∧o[i]≤(hs.length:Int)-1
  ·have hsi:=hb _ (rdH_mem _ _ c.1 (by omega:o[i]<(hs.length:Int)))
   have hno: ¬(wordsB m 24=true∧goB (rd_T53 hs o[i])=true):=fun x=>by rw [hw] at x;exact absurd x.1 (by simp)
   rw [if_pos (decide_eq_true c),if_pos c.1,if_pos (by omega),specEventOf_eq _ _ _ (by omega) hsi _ (by omega),Option.bind_some,if_neg hno,if_neg (by simp),wrap_succ (by omega)]
   exact ih
  ·rw [if_neg (by simpa using c),wrap_succ (by omega)];exact ih
theorem specRunTo_eq (m:List Int) (hs:List Hh) (o st ce:List Int) (hm:m.length≤1048576) (hn:hs.length≤1048576) (hb:shortH hs) (hst:st.length≤1048576) (hce:ce.length≤1048576) (k:Nat) (hk:4400000<k):spec_RunTo.f k m hs o st ce=some (runTo4 (runToV m hs o st ce)):=by
 obtain ⟨k,rfl⟩: ∃q,k=q+1:=⟨k-1,by omega⟩
 have jt:spec_RunTo.j0 (k+1) o m hs true st ce=some (m,hs,0,0):=by rw [spec_RunTo.j0,if_pos rfl]
 unfold spec_RunTo.f runToV
 rw [specFlat_nil m hs hm (by omega) hb _ (by omega),Option.bind_some]
 dsimp only
 by_cases ho:o.length≤2000
 ·rw [if_neg (by omega),specWatchOk_eq st ce hst hce _ (by omega),Option.bind_some]
  by_cases w:watchB st ce=true
  ·obtain ⟨w1,w2⟩:=watchB_len w
   rw [if_pos (show o.length≤2000∧watchB st ce=true from ⟨ho,w⟩),w,Bool.not_true,spec_RunTo.j0,if_neg (by simp)]
   cases hw:wordsB m 24 with
   |true=>rw [if_pos rfl];exact specRunTo_l0 o st ce ho (by omega) (by omega) o.length 0 (m,hs) k (by omega) hw hn hb (by omega)
   |false=>rw [if_neg (by simp)];exact specRunTo_no m hs o st ce ho hm hw hn hb o.length 0 k (by omega) (by omega)
  ·rw [if_neg (fun x=>w x.2),Bool.eq_false_iff.2 w,Bool.not_false,jt];rfl
 ·rw [if_pos (by omega),if_neg (fun x=>ho x.1),jt];rfl
theorem drawWatch_l0 (c:List Int): ∀(d j:Nat) (a b:List Int) (i s:Int) (k:Nat),curOk c i→a.length=j→b.length=j→j+d=3→d<k→
  ∃a' b' i' s',spec_l24DrawWatch.l0 k (j:Int) c i s a b=some (a',b',i',s')∧a'.length≤4∧b'.length≤4∧curOk c i'
 |d,j,a,b,i,s,k,h,ha,hb,hd,hk=>by
  obtain ⟨k,rfl⟩: ∃q,k=q+1:=⟨k-1,by omega⟩
  obtain ⟨v,i1,s1,e1,p1,q1,c1⟩:=l1Below_ex c i s h 3 (by omega) (by omega)
  rw [spec_l24DrawWatch.l0,e1,Option.bind_some]
  dsimp only
  by_cases hc:(j:Int)<v
  ·obtain ⟨d,rfl⟩: ∃q,d=q+1:=⟨d-1,by omega⟩
   obtain ⟨v2,i2,s2,e2,p2,q2,c2⟩:=l1Below_ex c i1 s1 c1 20 (by omega) (by omega)
   obtain ⟨v3,i3,s3,e3,m3,c3⟩:=l1PickInt_ex c i2 s2 c2 [0,8,12,20,23] (by simp) (by simp)
   rw [if_pos hc,e2,Option.bind_some]
   dsimp only
   rw [if_pos (by omega),e3,Option.bind_some]
   dsimp only
   rw [if_pos (by omega),wrap_succ (by omega)]
   exact drawWatch_l0 c d (j+1) _ _ i3 s3 k c3 (by simp [ha]) (by simp [hb]) (by omega) (by omega)
  ·obtain ⟨on,i2,s2,e2,c2⟩:=l1Once_ex c i1 s1 c1 10 (by omega) (by omega)
   rw [if_neg hc,e2,Option.bind_some]
   dsimp only
   by_cases ho:on=true
   ·obtain ⟨v3,i3,s3,e3,m3,c3⟩:=l1PickInt_ex c i2 s2 c2 [(-1),24] (by simp) (by simp)
    rw [if_pos ho,e3,Option.bind_some]
    dsimp only
    rw [if_pos (by omega)]
    exact ⟨_,_,_,_,rfl,by rw [List.length_append];simp;omega,by omega,c3⟩
   ·rw [if_neg ho]
    exact ⟨_,_,_,_,rfl,by omega,by omega,c2⟩
theorem drawWatch_ex (c:List Int) (i s:Int) (h:curOk c i) (k:Nat) (hk:10<k): ∃a b i' s',spec_l24DrawWatch.f k c i s=some (a,b,i',s')∧a.length≤4∧b.length≤4∧curOk c i':=by
 unfold spec_l24DrawWatch.f
 exact drawWatch_l0 c 3 0 [] [] i s k h rfl rfl (by omega) (by omega)
def flatOk (m:List Int) (hs:List S53) (o:List Int):Prop:=wordsB m 24=true∧hs.length≤3∧(∀h∈hs,h.f0.length≤4)∧o.length≤2001
theorem drawFlat_l1 (c:List Int) (m:List Int) (hs:List S53) (hm:wordsB m 24=true) (hl:hs.length≤3) (hh: ∀h∈hs,h.f0.length≤4): ∀(d j:Nat) (o:List Int) (i s:Int) (k:Nat),curOk c i→o.length=j→j+d=40→d<k→
  ∃o',spec_DrawFlatRun.l1 k m hs o (j:Int) c i s=some (m,hs,o')∧flatOk m hs o'
 |d,j,o,i,s,k,h,hj,hd,hk=>by
  obtain ⟨k,rfl⟩: ∃q,k=q+1:=⟨k-1,by omega⟩
  obtain ⟨v,i1,s1,e1,p1,q1,c1⟩:=l1Below_ex c i s h 40 (by omega) (by omega)
  rw [spec_DrawFlatRun.l1,e1,Option.bind_some]
  dsimp only
  by_cases hc:(j:Int)<v
  ·obtain ⟨d,rfl⟩: ∃q,d=q+1:=⟨d-1,by omega⟩
   obtain ⟨v2,i2,s2,e2,p2,q2,c2⟩:=l1Below_ex c i1 s1 c1 4 (by omega) (by omega)
   rw [if_pos hc,e2,Option.bind_some]
   dsimp only
   rw [if_pos (by omega),wrap_succ (by omega)]
   exact drawFlat_l1 c m hs hm hl hh d (j+1) _ i2 s2 k c2 (by simp [hj]) (by omega) (by omega)
  ·obtain ⟨on,i2,s2,e2,c2⟩:=l1Once_ex c i1 s1 c1 60 (by omega) (by omega)
   rw [if_neg hc,e2,Option.bind_some]
   dsimp only
   by_cases ho:on=true
   ·obtain ⟨v3,i3,s3,e3,p3,q3,c3⟩:=l1Below_ex c i2 s2 c2 2 (by omega) (by omega)
    rw [if_pos ho,e3,Option.bind_some]
    dsimp only
    rw [wrap_small (by omega) (by omega),if_pos (by omega),if_pos (by omega)]
    exact ⟨_,rfl,hm,hl,hh,by rw [List.length_replicate];omega⟩
   ·rw [if_neg ho]
    exact ⟨_,rfl,hm,hl,hh,by omega⟩
theorem drawFlat_l0 (c:List Int) (m:List Int) (hm:wordsB m 24=true): ∀(d j:Nat) (hs:List S53) (i s:Int) (k:Nat),curOk c i→hs.length=j→(∀h∈hs,h.f0.length≤4)→j+d=3→60+d<k→
  ∃hs' o',spec_DrawFlatRun.l0 k m hs (j:Int) c i s=some (m,hs',o')∧flatOk m hs' o'
 |d,j,hs,i,s,k,h,hj,hh,hd,hk=>by
  obtain ⟨k,rfl⟩: ∃q,k=q+1:=⟨k-1,by omega⟩
  obtain ⟨v,i1,s1,e1,p1,q1,c1⟩:=l1Below_ex c i s h 3 (by omega) (by omega)
  rw [spec_DrawFlatRun.l0,e1,Option.bind_some]
  dsimp only
  rw [wrap_small (x:=1+v) (by omega) (by omega)]
  by_cases hc:(j:Int)<1+v
  ·obtain ⟨d,rfl⟩: ∃q,d=q+1:=⟨d-1,by omega⟩
   obtain ⟨r,p,t,i2,s2,e2,hr,c2⟩:=drawHart_ex c i1 s1 c1 k (by omega)
   rw [if_pos hc,e2,Option.bind_some]
   dsimp only
   rw [if_pos (by omega),wrap_succ (by omega)]
   refine drawFlat_l0 c m hm d (j+1) _ i2 s2 k c2 (by simp [hj]) (fun x hx=>?_) (by omega) (by omega)
   rcases List.mem_append.1 hx with q|q
   ·exact hh x q
   ·rw [List.mem_singleton.1 q];exact hr
  ·rw [if_neg hc]
   obtain ⟨o',e2,hok⟩:=drawFlat_l1 c m hs hm (by omega) hh 40 0 [] i1 s1 k c1 rfl (by omega) (by omega)
   exact ⟨_,_,e2,hok⟩
theorem drawFlat_ex (c:List Int) (hc:c.length≤1048576) (k:Nat) (hk:10000<k): ∃m hs o,spec_DrawFlatRun.f k c=some (m,hs,o)∧flatOk m hs o:=by
 unfold spec_DrawFlatRun.f
 obtain ⟨i0,s0,e0,c0⟩:=l1New_ex c hc k (by omega)
 rw [e0,Option.bind_some]
 dsimp only
 obtain ⟨m,i1,s1,e1,hm,c1⟩:=drawMemW_ex c i0 s0 c0 k (by omega)
 rw [e1,Option.bind_some]
 dsimp only
 obtain ⟨hs,o,e2,hok⟩:=drawFlat_l0 c m hm 3 0 [] i1 s1 k c1 rfl (by simp) (by omega) (by omega)
 exact ⟨_,_,_,e2,hok⟩
theorem drawRunTo_ex (c:List Int) (hc:c.length≤1048576) (k:Nat) (hk:10000<k): ∃m hs o a b,spec_DrawRunTo.f k c=some (m,hs,o,a,b)∧flatOk m hs o∧a.length≤4∧b.length≤4:=by
 unfold spec_DrawRunTo.f
 obtain ⟨i0,s0,e0,c0⟩:=l1New_ex c hc k (by omega)
 rw [e0,Option.bind_some]
 dsimp only
 obtain ⟨a,b,i1,s1,e1,ha,hb,c1⟩:=drawWatch_ex c i0 s0 c0 k (by omega)
 rw [e1,Option.bind_some]
 dsimp only
 obtain ⟨on,i2,s2,e2,c2⟩:=l1Once_ex c i1 s1 c1 4 (by omega) (by omega)
 rw [e2,Option.bind_some]
 dsimp only
 by_cases ho:on=true
 ·obtain ⟨m,hs,o,e3,hok⟩:=drawFlat_ex c hc k hk
  rw [if_pos ho,e3,Option.bind_some]
  exact ⟨_,_,_,_,_,rfl,hok,ha,hb⟩
 ·obtain ⟨m,hs,o,i3,s3,e3,hok,c3⟩:=drawRun_ex c i2 s2 c2 30 (by omega) k (by omega)
  obtain ⟨hw,hl,hh,ho',hin⟩:=hok
  rw [if_neg ho,e3,Option.bind_some]
  exact ⟨m,hs,o,a,b,rfl,⟨hw,by omega,fun x hx=>by have:=(hartB_parts (hh x hx)).1;omega,by omega⟩,ha,hb⟩
theorem within_eq' (l:List Int) (x:Int) (hl:l.length≤1048576) (k:Nat) (hk:1048600<k):laws_within.f k l x=some (decide (x∈l)):=by
 unfold laws_within.f
 have h: ∀(d i k:Nat),i+d=l.length→d<k→laws_within.l0 k l x (i:Int)=some (decide (x∈l.drop i)):=by
  intro d
  induction d with
  |zero=>
   intro i k hi hk
   obtain ⟨k,rfl⟩: ∃q,k=q+1:=⟨k-1,by omega⟩
   rw [laws_within.l0,if_neg (by omega),List.drop_eq_nil_of_le (by omega)];rfl
  |succ d ih=>
   intro i k hi hk
   obtain ⟨k,rfl⟩: ∃q,k=q+1:=⟨k-1,by omega⟩
   have hil:i<l.length:=by omega
   rw [laws_within.l0,if_pos (by omega),if_pos (by omega),rd_nat l i hil,List.drop_eq_getElem_cons hil]
   by_cases c:l[i]=x
   ·rw [if_pos c,decide_eq_true (by rw [c];simp)]
   ·have e:decide (x∈l[i] :: l.drop (i+1))=decide (x∈l.drop (i+1)):=by
     have:(x∈l[i] :: l.drop (i+1))↔x∈l.drop (i+1):=by
      rw [List.mem_cons];exact ⟨fun h=>h.resolve_left (fun e=>c e.symm),.inr⟩
     exact decide_eq_decide.2 this
    rw [if_neg c,wrap_succ (by omega),e]
    exact ih (i+1) k (by omega) (by omega)
 have:=h l.length 0 k (by omega) (by omega)
 rwa [List.drop_zero] at this
theorem watchV_stop (st ce:List Int): ∀(o:List Int) (s:List Int×List Hh) (u:Nat),(watchV st ce s o u).2.2=1→∃(j:Nat) (h:j<o.length),(watchV st ce s o u).2.1=((u+j:Nat):Int)∧mayGo (watchV st ce s o u).1.2 (o[j]'h)∧(rd_T53 (watchV st ce s o u).1.2 (o[j]'h)).f1∈st
 |[],s,u,h=>by simp [watchV] at h
 |i :: o,s,u,h=>by
  rw [watchV] at h ⊢
  have more: ∀s',(watchV st ce s' o (u+1)).2.2=1→∃(j:Nat) (h:j<(i :: o).length),(watchV st ce s' o (u+1)).2.1=((u+j:Nat):Int)∧mayGo (watchV st ce s' o (u+1)).1.2 ((i :: o)[j]'h)∧(rd_T53 (watchV st ce s' o (u+1)).1.2 ((i :: o)[j]'h)).f1∈st:=fun s' h'=>by
   obtain ⟨j,hj,h1,h2,h3⟩:=watchV_stop st ce o s' (u+1) h'
   exact ⟨j+1,by simpa using hj,by rw [h1];omega,h2,h3⟩
  by_cases c:mayGo s.2 i
  ·rw [if_pos c] at h ⊢
   by_cases c2:0<u∧(rd_T53 s.2 i).f1∈st
   ·rw [if_pos c2]
    exact ⟨0,by simp,rfl,c,c2.2⟩
   ·rw [if_neg c2] at h ⊢
    by_cases c3:(eventV s.1 (rd_T53 s.2 i) i).f4≥0∧(eventV s.1 (rd_T53 s.2 i) i).f2∈ce
    ·rw [if_pos c3] at h;simp at h
    ·rw [if_neg c3] at h ⊢;exact more _ h
  ·rw [if_neg c] at h ⊢;exact more _ h
theorem watchV_end (st ce:List Int): ∀(o:List Int) (s:List Int×List Hh) (u:Nat),(watchV st ce s o u).2.2=0→(watchV st ce s o u).2.1=((u+o.length:Nat):Int)
 |[],s,u,h=>by simp [watchV]
 |i :: o,s,u,h=>by
  rw [watchV] at h ⊢
  have more: ∀s',(watchV st ce s' o (u+1)).2.2=0→(watchV st ce s' o (u+1)).2.1=((u+(i :: o).length:Nat):Int):=fun s' h'=>by
   rw [watchV_end st ce o s' (u+1) h'];simp only [List.length_cons];omega
  by_cases c:mayGo s.2 i
  ·rw [if_pos c] at h ⊢
   by_cases c2:0<u∧(rd_T53 s.2 i).f1∈st
   ·rw [if_pos c2] at h;simp at h
   ·rw [if_neg c2] at h ⊢
    by_cases c3:(eventV s.1 (rd_T53 s.2 i) i).f4≥0∧(eventV s.1 (rd_T53 s.2 i) i).f2∈ce
    ·rw [if_pos c3] at h;simp at h
    ·rw [if_neg c3] at h ⊢;exact more _ h
  ·rw [if_neg c] at h ⊢;exact more _ h
def hitB (ce:List Int) (e:Ev):Prop:=e.f4≥0∧e.f2∈ce
theorem watchV_why (st ce:List Int): ∀(o:List Int) (s:List Int×List Hh) (u:Nat),(watchV st ce s o u).2.2=0∨(watchV st ce s o u).2.2=1∨((watchV st ce s o u).2.2=2∧∃(j:Nat) (L:List Ev) (e:Ev),j<o.length∧(watchV st ce s o u).2.1=((u+j+1:Nat):Int)∧traceV s (o.take (j+1))=L++[e]∧hitB ce e∧∀x∈L,¬hitB ce x)
 |[],s,u=>by left;rfl
 |i :: o,s,u=>by
  rw [watchV]
  by_cases c:mayGo s.2 i
  ·rw [if_pos c]
   by_cases c2:0<u∧(rd_T53 s.2 i).f1∈st
   ·rw [if_pos c2];right;left;rfl
   ·rw [if_neg c2]
    by_cases c3:(eventV s.1 (rd_T53 s.2 i) i).f4≥0∧(eventV s.1 (rd_T53 s.2 i) i).f2∈ce
    ·rw [if_pos c3];right;right
     refine ⟨rfl,0,[],eventV s.1 (rd_T53 s.2 i) i,by simp,rfl,?_,c3,by simp⟩
     rw [List.take_succ_cons,List.take_zero,traceV,if_pos c,traceV];rfl
    ·rw [if_neg c3]
     rcases watchV_why st ce o (nextV s i) (u+1) with h|h|⟨h,j,L,e,h1,h2,h3,h4,h5⟩
     ·exact .inl h
     ·exact .inr (.inl h)
     ·refine .inr (.inr ⟨h,j+1,eventV s.1 (rd_T53 s.2 i) i :: L,e,by simpa using h1,by rw [h2];omega,?_,h4,fun x hx=>?_⟩)
      ·rw [List.take_succ_cons,traceV,if_pos c,h3];rfl
      ·rcases List.mem_cons.1 hx with rfl|hx
       ·exact c3
       ·exact h5 x hx
  ·rw [if_neg c]
   rcases watchV_why st ce o s (u+1) with h|h|⟨h,j,L,e,h1,h2,h3,h4,h5⟩
   ·exact .inl h
   ·exact .inr (.inl h)
   ·refine .inr (.inr ⟨h,j+1,L,e,by simpa using h1,by rw [h2];omega,?_,h4,h5⟩)
    rw [List.take_succ_cons,traceV,if_neg c,h3]
theorem rdEv (l:List Ev) (i:Nat) (h:i<l.length):rd_T57 l (i:Int)=l[i]:=by
 unfold rd_T57;simp [List.getD,h]
theorem stops_l0 (L:List Ev) (e:Ev) (a b:List Int) (hb:b.length≤1000) (hL:L.length≤10000) (he:hitB b e) (hx: ∀x∈L,¬hitB b x): ∀(d i k:Nat),i+d=L.length→1100000+d<k→laws_FnStops.l0 k (L++[e]) (i:Int) a b=some true
 |0,i,k,hi,hk=>by
  obtain ⟨k,rfl⟩: ∃q,k=q+1:=⟨k-1,by omega⟩
  have hlen:((L++[e]).length:Int)=(L.length:Int)+1:=by simp
  have hw:wrap64 (((L++[e]).length:Int)-1)=(L.length:Int):=by rw [hlen,wrap_small (by omega) (by omega)];omega
  have hr:rd_T57 (L++[e]) (L.length:Int)=e:=by rw [rdEv _ _ (by simp)];simp
  rw [laws_FnStops.l0,wrap_succ (by omega),if_neg (by omega),hw,if_pos (by omega),if_pos (by omega),hr,if_pos he.1,within_eq' b _ (by omega) k (by omega),Option.bind_some,decide_eq_true he.2]
 |d+1,i,k,hi,hk=>by
  obtain ⟨k,rfl⟩: ∃q,k=q+1:=⟨k-1,by omega⟩
  have hil:i<L.length:=by omega
  have hlen:((L++[e]).length:Int)=(L.length:Int)+1:=by simp
  have hr:rd_T57 (L++[e]) (i:Int)=L[i]:=by rw [rdEv _ _ (by simp;omega)];exact List.getElem_append_left hil
  have hn:=hx _ (List.getElem_mem hil)
  rw [laws_FnStops.l0,wrap_succ (by omega),if_pos (by omega),if_pos (by omega),if_pos (by omega),hr]
  by_cases c:(L[i]).f4≥0
  ·rw [if_pos c,within_eq' b _ (by omega) k (by omega),Option.bind_some,decide_eq_false (fun q=>hn ⟨c,q⟩),if_neg (by simp)]
   exact stops_l0 L e a b hb hL he hx d (i+1) k (by omega) (by omega)
  ·rw [if_neg c]
   exact stops_l0 L e a b hb hL he hx d (i+1) k (by omega) (by omega)
theorem FnStops:laws_FnStops.Pure:=by
 intro c _ _ _
 obtain ⟨K,hK⟩: ∃K:Nat,9900000≤K:=⟨_,Nat.le_refl _⟩
 refine ⟨K+1,?_⟩
 unfold laws_FnStops.f laws_big.f
 rw [Option.bind_some]
 by_cases hb:(c.length:Int)>1048576
 ·rw [if_pos (decide_eq_true hb)]
 rw [if_neg (by simpa using hb)]
 obtain ⟨m,hs,o,a,b,e0,hok,ha,hbb⟩:=drawRunTo_ex c (by omega) (K+1) (by omega)
 obtain ⟨hw,hl,hh,ho⟩:=hok
 have l24:=wordsB_24 hw
 have hsh:shortH hs:=fun x hx=>by have:=hh x hx;omega
 rw [e0,Option.bind_some]
 dsimp only
 rw [implRunTo_eq m hs o a b (by omega) (by omega) hsh (by omega) (by omega) (K+1) (by omega),Option.bind_some,specRunTo_eq m hs o a b (by omega) (by omega) hsh (by omega) (by omega) (K+1) (by omega),Option.bind_some,if_pos rfl,bne_self_eq_false,laws_FnStops.j0,if_neg (by simp)]
 unfold runToV
 by_cases g:o.length≤2000∧watchB a b=true
 rotate_left
 ·rw [if_neg g]
  show (if (0:Int)=1 then _ else if (0:Int)=0 then (if (0:Int)=(o.length:Int) then some true else some ((0:Int) == 0)) else _)=some true
  rw [if_neg (by decide),if_pos rfl]
  split<;>rfl
 rw [if_pos g,if_pos hw]
 unfold runTo4
 dsimp only
 rcases watchV_why a b o (m,hs) 0 with h|h|⟨h,j,L,e,h1,h2,h3,h4,h5⟩
 ·have hn:=watchV_end a b o (m,hs) 0 h
  rw [h,if_neg (by decide),if_pos rfl,hn,if_pos (by omega)]
 ·obtain ⟨j,hj,h2,h3,h4⟩:=watchV_stop a b o (m,hs) 0 h
  rw [h,if_pos rfl,h2,if_pos (by omega),if_pos (by omega),show ((0+j:Nat):Int)=(j:Int) by omega,rd_nat o j hj,if_pos h3.1,if_pos h3.2.1,within_eq' a _ (by omega) K (by omega),Option.bind_some,decide_eq_true h4]
 ·have hT:impl_Trace.f K m hs (o.take (j+1))=some (L++[e]):=by
   rw [implTrace_eq m hs _ hw (by omega) hsh K (by omega),if_pos (by rw [List.length_take];omega),h3]
  have hLl:L.length≤10000:=by
   have:=traceV_len (o.take (j+1)) (m,hs)
   rw [h3,List.length_append,List.length_take] at this
   omega
  rw [h,if_neg (by decide),if_neg (by decide),h2,if_pos (by omega),if_pos (by omega),show (((0+j+1:Nat):Int)).toNat=j+1 by omega,hT,Option.bind_some,if_neg (by simp;omega)]
  exact stops_l0 L e a b (by omega) hLl h4 h5 L.length 0 K (by omega) (by omega)
end Go.Proofs.Ytpcgecacaemalaa.Pure
