/- For all runs and watches the program's RunTo returns what the reference's RunTo returns, keeps its arguments, and what it returns is its own: no conditions. -/
import Derived.Test.YtpcgecacaemalaaPFnExactRunTox19
namespace Go.Proofs.Ytpcgecacaemalaa.Pure
open Go.RowKit Go.Proofs.Ytpcgecacaemalaa.PFnExactRunTo Go.Proofs.YtpcgecacaemalaaW.PrintWords Go.Proofs.YtpcgecacaemalaaW.PrintLast
set_option linter.unusedVariables false
set_option linter.unusedSimpArgs false

theorem wrap_small {x:Int} (h0: -9223372036854775808≤x) (h:x≤9223372036854775807):wrap64 x=x:=by
 unfold wrap64;omega
theorem wrap_succ {i:Nat} (h:i<4611686018427387904):wrap64 ((i:Int)+1)=((i+1:Nat):Int):=by
 unfold wrap64;omega
theorem rd_nat (l:List Int) (i:Nat) (h:i<l.length):rd l (i:Int)=l[i]:=by
 unfold rd;simp [List.getD,h]
theorem rd_mem (l:List Int) (i:Nat) (h:i<l.length):rd l (i:Int)∈l:=by
 rw [rd_nat l i h];exact List.getElem_mem h
theorem for_st {σ ρ:Type} (n:Nat) (L:Nat→Nat→σ→Option ρ) (st:Nat→σ) (r:ρ) (hs: ∀k i,i<n→L (k+1) i (st i)=L k (i+1) (st (i+1))) (he: ∀k,L (k+1) n (st n)=some r):
  ∀(k i:Nat),i≤n→n<i+k→L k i (st i)=some r
 |0,i,hi,hk=>by omega
 |k+1,i,hi,hk=>by
  by_cases h:i<n
  ·rw [hs k i h];exact for_st n L st r hs he k (i+1) (by omega) (by omega)
  ·have:i=n:=by omega
   subst this;exact he k
theorem for_find {ρ:Type} (n:Nat) (L:Nat→Nat→Option ρ) (p:Nat→Prop) (b:Nat→ρ) (r:ρ) (hs: ∀k i,i<n→¬p i→L (k+1) i=L k (i+1)) (hb: ∀k i,i<n→p i→L (k+1) i=some (b i)) (he: ∀k,L (k+1) n=some r):
  ∀(k i:Nat),i≤n→n<i+k→(∃j,i≤j∧j<n∧p j∧(∀m,i≤m→m<j→¬p m)∧L k i=some (b j))∨(∀j,i≤j→j<n→¬p j)∧L k i=some r
 |0,i,hi,hk=>by omega
 |k+1,i,hi,hk=>by
  by_cases h:i<n
  ·by_cases hp:p i
   ·exact .inl ⟨i,Nat.le_refl _,h,hp,fun m h1 h2=>by omega,hb k i h hp⟩
   ·rw [hs k i h hp]
    rcases for_find n L p b r hs hb he k (i+1) (by omega) (by omega) with ⟨j,h1,h2,h3,h4,h5⟩|⟨h1,h2⟩
    ·refine .inl ⟨j,by omega,h2,h3,fun m hm1 hm2=>?_,h5⟩
     by_cases e:m=i
     ·subst e;exact hp
     ·exact h4 m (by omega) hm2
    ·refine .inr ⟨fun j hj1 hj2=>?_,h2⟩
     by_cases e:j=i
     ·subst e;exact hp
     ·exact h1 j (by omega) hj2
  ·have:i=n:=by omega
   subst this;exact .inr ⟨fun j h1 h2=>by omega,he k⟩
theorem for_all {n:Nat} {L:Nat→Nat→Option Bool} (p:Nat→Prop) (hs: ∀k i,i<n→p i→L (k+1) i=L k (i+1)) (hb: ∀k i,i<n→¬p i→L (k+1) i=some false) (c:Bool) (he: ∀k,L (k+1) n=some c) {q:Bool}
  (hq:q=true↔(∀j,j<n→p j)∧c=true) (k:Nat) (hk:n<k):L k 0=some q:=by
 rcases for_find n L (fun i=>¬p i) (fun _=>false) c (fun k i h hp=>hs k i h (Classical.not_not.1 hp)) (fun k i h hp=>hb k i h hp) he k 0 (Nat.zero_le _) (by omega) with ⟨j,_,h2,h3,_,h5⟩|⟨h1,h2⟩
 ·rw [h5];congr 1;symm
  rw [Bool.eq_false_iff];intro hh;exact h3 ((hq.1 hh).1 j h2)
 ·rw [h2];congr 1
  have: ∀j,j<n→p j:=fun j hj=>Classical.not_not.1 (h1 j (Nat.zero_le _) hj)
  rw [Bool.eq_iff_iff,hq];exact ⟨fun h=>⟨this,h⟩,fun h=>h.2⟩
theorem set_step {α:Type} (a b:List α) (i:Nat) (hi:i<a.length) (hb:b.length=a.length):(a.take i++b.drop i).set i (a[i]'hi)=a.take (i+1)++b.drop (i+1):=by
 rw [List.set_append_right _ _ (by simp;omega),List.length_take,Nat.min_eq_left (by omega),Nat.sub_self,List.take_succ_eq_append_getElem hi,List.append_assoc]
 congr 1
 rw [List.drop_eq_getElem_cons (by omega)]
 rfl
theorem snoc_step {α:Type} (a:List α) (i:Nat) (hi:i<a.length):a.take i++[a[i]'hi]=a.take (i+1):=by
 rw [List.take_succ_eq_append_getElem hi]
theorem eq_iff_all (a b:List Int) (h:a.length=b.length):a=b↔∀j,j<a.length→rd a (j:Int)=rd b (j:Int):=by
 constructor
 ·rintro rfl j _;rfl
 ·intro hh;refine List.ext_getElem h (fun j h1 h2=>?_)
  have:=hh j h1
  rwa [rd_nat a j h1,rd_nat b j h2] at this
def iota (s:Int) (n:Nat):List Int:=(List.range n).map fun (i:Nat)=>s+(i:Int)
theorem iota_length (s:Int) (n:Nat):(iota s n).length=n:=by simp [iota]
theorem iota_get (s:Int) (n i:Nat) (h:i<n):(iota s n)[i]'(by rw [iota_length];exact h)=s+i:=by simp [iota]
theorem wraps_i64 (n:Int) (h0:0≤n) (h1:n<2 ^ 62):IntKind.i64.wrap n=n:=by rw [IntKind.wrap_i64];omega
theorem idx_any {n:Nat} (L:Nat→Nat→Option Int) (q:Nat→Bool) (hs: ∀k i,i<n→q i=false→L (k+1) i=L k (i+1)) (hb: ∀k i,i<n→q i=true→L (k+1) i=some (i:Int)) (he: ∀k,L (k+1) n=some (-1)) (r:Bool)
  (hr:r=true↔∃j,j<n∧q j=true) (k:Nat) (hk:n<k): ∃v,L k 0=some v∧decide (v≥0)=r:=by
 rcases for_find n L (fun i=>q i=true) (fun i=>(i:Int)) (-1) (fun k i h hp=>hs k i h (by simpa using hp)) hb he k 0 (Nat.zero_le _) (by omega) with ⟨j,_,h2,h3,_,h5⟩|⟨h1,h2⟩
 ·refine ⟨_,h5,?_⟩
  rw [decide_eq_true (by omega:(j:Int)≥0)];exact (hr.2 ⟨j,h2,h3⟩).symm
 ·refine ⟨_,h2,?_⟩
  rw [decide_eq_false (by omega: ¬(-1:Int)≥0)];symm;rw [Bool.eq_false_iff];intro hh
  obtain ⟨j,hj,hq⟩:=hr.1 hh
  exact h1 j (Nat.zero_le _) hj hq
def wordsB (l:List Int) (n:Int):Bool:=decide ((l.length:Int)=n)&&l.all (fun x=>decide (0≤x∧x≤65535))
theorem wordsB_mem {l:List Int} {n:Int} (h:wordsB l n=true) (x:Int) (hx:x∈l):0≤x∧x≤65535:=by
 unfold wordsB at h;rw [Bool.and_eq_true,List.all_eq_true] at h;exact of_decide_eq_true (h.2 x hx)
def hartB (regs:List Int) (pc st:Int):Bool:=wordsB regs 4&&(decide (0≤pc∧pc≤23)&&decide (0≤st∧st≤2))
theorem ite_some' (b c:Bool):(if b=true then some c else some false)=some (b&&c):=by cases b<;>rfl
theorem hartB_len {r:List Int} {p s:Int} (h:hartB r p s=true):r.length=4:=by
 unfold hartB wordsB at h;rw [Bool.and_eq_true,Bool.and_eq_true] at h;have:=of_decide_eq_true h.1.1;omega
theorem wordsB_24 {l:List Int} (h:wordsB l 24=true):l.length=24:=by unfold wordsB at h;rw [Bool.and_eq_true] at h;have:=of_decide_eq_true h.1;omega
theorem tmod_pos (n c:Int) (h:0≤n):Int.tmod n c=n % c:=Int.tmod_eq_emod_of_nonneg h
theorem tmod_neg (n c:Int) (h:n<0):Int.tmod n c= -((-n) % c):=by
 rw [←Int.tmod_eq_emod_of_nonneg (by omega:0≤ -n),Int.neg_tmod,Int.neg_neg]
theorem tdiv_pos (n c:Int) (h:0≤n):Int.tdiv n c=n / c:=Int.tdiv_eq_ediv_of_nonneg h
theorem tmod_up (n c:Int) (hc:0<c) (hb:c≤4294967296):Int.tmod (Int.tmod n c+c) c=n % c:=by
 have h1:=Int.emod_nonneg n (by omega:c≠0)
 have h2:=Int.emod_lt_of_pos n hc
 rcases Int.lt_or_le n 0 with h|h
 ·rw [tmod_neg n c h]
  have h3:=Int.emod_nonneg (-n) (by omega:c≠0)
  have h4:=Int.emod_lt_of_pos (-n) hc
  rw [tmod_pos _ _ (by omega),Int.add_emod_right,←Int.sub_emod_right]
  have:=Int.emod_add_mul_ediv (-n) c
  have e: -(-n % c)-c=n+c*((-n) / c-1):=by
   have:n= -(-n % c)-c*((-n) / c):=by omega
   rw [Int.mul_sub];omega
  rw [e,Int.add_mul_emod_self_left]
 ·rw [tmod_pos n c h,tmod_pos _ _ (by omega),Int.add_emod_right,Int.emod_emod_of_dvd _ (Int.dvd_refl c)]
theorem tmod_bd (n c:Int) (hc:0<c): -c<Int.tmod n c∧Int.tmod n c<c:=by
 rcases Int.lt_or_le n 0 with h|h
 ·rw [tmod_neg n c h]
  have h3:=Int.emod_nonneg (-n) (by omega:c≠0)
  have h4:=Int.emod_lt_of_pos (-n) hc
  omega
 ·rw [tmod_pos n c h]
  have h3:=Int.emod_nonneg n (by omega:c≠0)
  have h4:=Int.emod_lt_of_pos n hc
  omega
theorem toIntS_eq (l:List Int) (hl:l.length≤1048576) (k:Nat) (hk:l.length<k):laws_toIntS.f k l=some l:=by
 unfold laws_toIntS.f
 rw [if_pos (by omega),if_pos (by simp;omega)]
 have h:=for_st l.length (fun k i s=>laws_toIntS.l0 k l s (i:Int)) (fun i=>l.take i++(List.replicate l.length 0).drop i) l ?_ ?_ k 0 (Nat.zero_le _) (by omega)
 ·simpa using h
 ·intro k i hi
  simp only [laws_toIntS.l0]
  rw [if_pos (by omega),if_pos (by omega),if_pos (by simp;omega),wrap_succ (by omega),rd_nat l i hi]
  simp only [Int.toNat_natCast]
  rw [set_step _ _ _ hi (by simp)]
 ·intro k
  simp only [laws_toIntS.l0]
  rw [if_neg (by omega)];simp
theorem eqIntS_eq (a b:List Int) (hl:a.length≤1048576) (k:Nat) (hk:a.length<k):laws_eqIntS.f k a b=some (decide (a=b)):=by
 unfold laws_eqIntS.f
 by_cases h:a.length=b.length
 ·rw [if_pos (by omega)]
  refine for_all (L:=fun k i=>laws_eqIntS.l0 k a b (i:Int)) (n:=a.length) (fun j=>rd a (j:Int)=rd b (j:Int)) ?_ ?_ true ?_ ?_ k hk
  ·intro k i hi hp
   simp only [laws_eqIntS.l0]
   rw [if_pos (by omega),if_pos (by omega),if_pos (by omega),if_pos hp,wrap_succ (by omega)]
  ·intro k i hi hp
   simp only [laws_eqIntS.l0]
   rw [if_pos (by omega),if_pos (by omega),if_pos (by omega),if_neg hp]
  ·intro k
   simp only [laws_eqIntS.l0]
   rw [if_neg (by omega)]
  ·rw [decide_eq_true_iff,eq_iff_all a b h];simp
 ·rw [if_neg (by omega)]
  have:a≠b:=fun hh=>h (by rw [hh])
  simp [this]
theorem markIntS_eq (l:List Int) (s:Int) (h0:0≤s) (h1:s≤1152921504606846976) (hl:l.length≤2097152) (k:Nat) (hk:l.length<k):laws_markIntS.f k l s=some (s+l.length,iota s l.length):=by
 unfold laws_markIntS.f
 have h:=for_st l.length (fun k i (t:List Int×Int)=>laws_markIntS.l0 k t.1 t.2 (i:Int)) (fun i=>((iota s l.length).take i++l.drop i,s+(i:Int))) (s+l.length,iota s l.length) ?_ ?_ k 0 (Nat.zero_le _) (by omega)
 ·simpa using h
 ·intro k i hi
  simp only [laws_markIntS.l0]
  rw [if_pos (by simp [iota_length];omega),if_pos (by omega),wrap_succ (by omega),wrap_small (by omega) (by omega)]
  simp only [Int.toNat_natCast]
  rw [←iota_get s l.length i hi,set_step _ _ _ (by rw [iota_length];exact hi) (by rw [iota_length])]
  congr 1
  rw [iota_get s l.length i hi];omega
 ·intro k
  simp only [laws_markIntS.l0]
  rw [if_neg (by simp [iota_length])]
  simp [List.take_of_length_le,iota_length]
theorem heldIntS_eq (s:Int) (n:Nat) (h0:0≤s) (h1:s≤1152921504606846976) (hl:n≤2097152) (k:Nat) (hk:n<k):laws_heldIntS.f k (iota s n) s=some (s+n):=by
 unfold laws_heldIntS.f
 have h:=for_st n (fun k i (t:Int)=>laws_heldIntS.l0 k (iota s n) t (i:Int)) (fun i=>s+(i:Int)) (s+n) ?_ ?_ k 0 (Nat.zero_le _) (by omega)
 ·simpa using h
 ·intro k i hi
  simp only [laws_heldIntS.l0]
  rw [if_pos (by simp [iota_length];omega),if_pos (by omega),rd_nat _ _ (by rw [iota_length];exact hi),if_pos (iota_get s n i hi),wrap_succ (by omega),wrap_small (by omega) (by omega)]
  congr 1;omega
 ·intro k
  simp only [laws_heldIntS.l0]
  rw [if_neg (by simp [iota_length])]
theorem l1In_eq (x lo hi:Int):spec_l1In.f x lo hi=some (decide (lo≤x∧x≤hi)):=by
 unfold spec_l1In.f
 by_cases h:x≥lo
 ·rw [if_pos h];have h':lo≤x:=h;simp [h']
 ·rw [if_neg h];have h': ¬lo≤x:=h;simp [h']
theorem from_eq (x lo hi:Int):impl_from.f x lo hi=some (decide (lo≤x∧x≤hi)):=by
 unfold impl_from.f
 by_cases h:x≥lo
 ·rw [if_pos h];have h':lo≤x:=h;simp [h']
 ·rw [if_neg h];have h': ¬lo≤x:=h;simp [h']
theorem isWord_eq (x:Int):impl_isWord.f x=some (decide (0≤x∧x≤65535)):=by
 unfold impl_isWord.f;rw [from_eq];rfl
theorem isCell_eq (x:Int):impl_isCell.f x=some (decide (0≤x∧x≤23)):=by
 unfold impl_isCell.f;rw [from_eq];rfl
theorem l1Words_eq (l:List Int) (n:Int) (hl:l.length≤2097152) (k:Nat) (hk:l.length<k):spec_l1Words.f k l n=some (wordsB l n):=by
 unfold spec_l1Words.f
 refine for_all (L:=fun k i=>spec_l1Words.l0 k l n (i:Int)) (n:=l.length) (fun j=>0≤rd l (j:Int)∧rd l (j:Int)≤65535) ?_ ?_ (decide ((l.length:Int)=n)) ?_ ?_ k hk
 ·intro k i hi hp
  simp only [spec_l1Words.l0]
  rw [if_pos (by omega),if_pos (by omega),l1In_eq,decide_eq_true hp,Option.bind_some,if_pos rfl,wrap_succ (by omega)]
 ·intro k i hi hp
  simp only [spec_l1Words.l0]
  rw [if_pos (by omega),if_pos (by omega),l1In_eq,decide_eq_false hp,Option.bind_some,if_neg (by simp)]
 ·intro k
  simp only [spec_l1Words.l0]
  rw [if_neg (by omega)];rfl
 ·unfold wordsB
  rw [Bool.and_eq_true,List.all_eq_true]
  constructor
  ·rintro ⟨h1,h2⟩;exact ⟨fun j hj=>of_decide_eq_true (h2 _ (rd_mem l j hj)),h1⟩
  ·rintro ⟨h1,h2⟩;refine ⟨h2,fun x hx=>?_⟩
   obtain ⟨j,hj,rfl⟩:=List.getElem_of_mem hx
   have:=h1 j hj;rw [rd_nat l j hj] at this;exact decide_eq_true this
theorem wordsOk_eq (l:List Int) (n:Int) (hl:l.length≤2097152) (k:Nat) (hk:l.length<k):impl_wordsOk.f k l n=some (wordsB l n):=by
 unfold impl_wordsOk.f
 by_cases h:(l.length:Int)=n
 ·rw [if_pos h]
  unfold slices_ContainsFunc_at_impl_wordsOk_1.f slices_IndexFunc_at_impl_wordsOk_1.f
  have hf: ∀x,impl_wordsOk_1.f x=some (!decide (0≤x∧x≤65535)):=fun x=>by unfold impl_wordsOk_1.f;rw [isWord_eq];rfl
  have hs: ∀k i,i<l.length→¬¬(0≤rd l (i:Int)∧rd l (i:Int)≤65535)→slices_IndexFunc_at_impl_wordsOk_1.l0 (k+1) l (l.length:Int) (i:Int)=slices_IndexFunc_at_impl_wordsOk_1.l0 k l (l.length:Int) ((i+1:Nat):Int):=by
   intro k i hi hp
   simp only [slices_IndexFunc_at_impl_wordsOk_1.l0]
   rw [if_pos (by omega),if_pos (by omega),if_pos (by omega),hf,decide_eq_true (Classical.not_not.1 hp),Option.bind_some,if_neg (by simp),wrap_succ (by omega)]
  have hb: ∀k i,i<l.length→¬(0≤rd l (i:Int)∧rd l (i:Int)≤65535)→slices_IndexFunc_at_impl_wordsOk_1.l0 (k+1) l (l.length:Int) (i:Int)=some (i:Int):=by
   intro k i hi hp
   simp only [slices_IndexFunc_at_impl_wordsOk_1.l0]
   rw [if_pos (by omega),if_pos (by omega),if_pos (by omega),hf,decide_eq_false hp,Option.bind_some,if_pos (by simp)]
  have he: ∀k,slices_IndexFunc_at_impl_wordsOk_1.l0 (k+1) l (l.length:Int) (l.length:Int)=some (-1):=by
   intro k
   simp only [slices_IndexFunc_at_impl_wordsOk_1.l0]
   rw [if_neg (by omega)]
  rcases for_find l.length (fun k i=>slices_IndexFunc_at_impl_wordsOk_1.l0 k l (l.length:Int) (i:Int)) (fun j=>¬(0≤rd l (j:Int)∧rd l (j:Int)≤65535)) (fun j=>(j:Int)) (-1) hs hb he k 0 (Nat.zero_le _) (by omega) with ⟨j,_,h2,h3,_,h5⟩|⟨h1,h2⟩
  ·have h5':slices_IndexFunc_at_impl_wordsOk_1.l0 k l (l.length:Int) 0=some (j:Int):=h5
   rw [h5']
   simp only [Option.bind_some];congr 1;symm
   rw [decide_eq_true (by omega:(j:Int)≥0),Bool.not_true,wordsB,Bool.and_eq_false_iff];right
   rw [Bool.eq_false_iff];intro hh
   exact h3 (of_decide_eq_true (List.all_eq_true.1 hh _ (rd_mem l j h2)))
  ·have h2':slices_IndexFunc_at_impl_wordsOk_1.l0 k l (l.length:Int) 0=some (-1):=h2
   rw [h2']
   simp only [Option.bind_some];congr 1;symm
   rw [decide_eq_false (by omega: ¬(-1:Int)≥0),Bool.not_false,wordsB,decide_eq_true h,Bool.true_and,List.all_eq_true]
   intro x hx
   obtain ⟨j,hj,rfl⟩:=List.getElem_of_mem hx
   have:=Classical.not_not.1 (h1 j (Nat.zero_le _) hj);rw [rd_nat l j hj] at this;exact decide_eq_true this
 ·rw [if_neg h,wordsB,decide_eq_false h,Bool.false_and]
theorem memOk_eq (l:List Int) (hl:l.length≤2097152) (k:Nat) (hk:l.length<k):impl_memOk.f k l=some (wordsB l 24):=by
 unfold impl_memOk.f;rw [wordsOk_eq l 24 hl k hk];rfl
theorem insOkB_bounds {o r a b n:Int} (h:insOkB o r a b n=true):1≤o∧o≤10∧0≤r∧r≤3∧0≤a∧a≤3∧0≤b∧b≤3∧0≤n∧n≤63:=by
 unfold insOkB at h
 simp only [Bool.and_eq_true,decide_eq_true_eq] at h
 obtain ⟨h0,⟨h1,h1'⟩,⟨h2,h2'⟩,⟨h3,h3'⟩,⟨h4,h4'⟩⟩:=h
 refine ⟨?_,?_,h1,h1',h2,h2',h3,h3',h4,h4'⟩
 ·by_cases c:1≤o
  ·exact c
  ·exfalso
   rw [if_neg (by omega),if_neg (by omega),if_neg (by omega),if_neg (by omega),if_neg (by omega),if_neg (by omega),if_neg (by omega),if_neg (by omega),if_neg (by omega),if_neg (by omega)] at h0
   cases h0
 ·by_cases c:o≤10
  ·exact c
  ·exfalso
   rw [if_neg (by omega),if_neg (by omega),if_neg (by omega),if_neg (by omega),if_neg (by omega),if_neg (by omega),if_neg (by omega),if_neg (by omega),if_neg (by omega),if_neg (by omega)] at h0
   cases h0
theorem ite_some (b c:Bool):(if b=true then some c else some false)=some (b&&c):=by cases b<;>rfl
theorem l8Field_eq (x m:Int) (h:Bool):spec_l8Field.f x m h=some (decide (0≤x∧x≤m)&&(h||decide (x=0))):=by
 unfold spec_l8Field.f
 rw [l1In_eq,Option.bind_some]
 have e:(x == 0)=decide (x=0):=rfl
 rw [e]
 cases h<;>simp only [if_true,Bool.false_eq_true,if_false,Bool.true_or,Bool.false_or,ite_some]
theorem specInsOk_eq (o r a b n:Int):spec_InsOk.f o r a b n=some (insOkB o r a b n):=by
 unfold spec_InsOk.f spec_l8Has.f
 simp only [l1In_eq,l8Field_eq,Option.bind_some,ite_some]
 by_cases ho:1≤o∧o≤10
 ·have hc:o=1∨o=2∨o=3∨o=4∨o=5∨o=6∨o=7∨o=8∨o=9∨o=10:=by omega
  rw [decide_eq_true ho]
  rcases hc with rfl|rfl|rfl|rfl|rfl|rfl|rfl|rfl|rfl|rfl<;>
   (simp only [if_true,Option.bind_some,List.length_cons,List.length_nil]
    rw [if_pos (by omega),if_pos (by omega)]
    simp only [rd,Option.bind_some,Bool.true_and]
    congr 1
    rw [Bool.eq_iff_iff]
    simp [insOkB,show Go.bits .and .i64 0 1=0 by decide,show Go.bits .and .i64 0 2=0 by decide,show Go.bits .and .i64 0 4=0 by decide,show Go.bits .and .i64 0 8=0 by decide,
     show Go.bits .and .i64 7 1=1 by decide,show Go.bits .and .i64 7 2=2 by decide,show Go.bits .and .i64 7 4=4 by decide,show Go.bits .and .i64 7 8=0 by decide,
     show Go.bits .and .i64 8 1=0 by decide,show Go.bits .and .i64 8 2=0 by decide,show Go.bits .and .i64 8 4=0 by decide,show Go.bits .and .i64 8 8=8 by decide,
     show Go.bits .and .i64 9 1=1 by decide,show Go.bits .and .i64 9 2=0 by decide,show Go.bits .and .i64 9 4=0 by decide,show Go.bits .and .i64 9 8=8 by decide,
     show Go.bits .and .i64 10 1=0 by decide,show Go.bits .and .i64 10 2=2 by decide,show Go.bits .and .i64 10 4=0 by decide,show Go.bits .and .i64 10 8=8 by decide,
     show Go.bits .and .i64 11 1=1 by decide,show Go.bits .and .i64 11 2=2 by decide,show Go.bits .and .i64 11 4=0 by decide,show Go.bits .and .i64 11 8=8 by decide,
     show Go.bits .and .i64 14 1=0 by decide,show Go.bits .and .i64 14 2=2 by decide,show Go.bits .and .i64 14 4=4 by decide,show Go.bits .and .i64 14 8=8 by decide,
     show Go.bits .and .i64 15 1=1 by decide,show Go.bits .and .i64 15 2=2 by decide,show Go.bits .and .i64 15 4=4 by decide,show Go.bits .and .i64 15 8=8 by decide]
    try omega)
 ·have hn: ∀c,1≤c→c≤10→o≠c:=fun c h1 h2 e=>ho (by omega)
  simp [ho,insOkB,hn]
def cellsAll (l:List Int):Bool:=l.all (fun x=>decide (0≤x∧x≤23))
def watchB (s c:List Int):Bool:=(decide (s.length≤24)&&cellsAll s)&&(decide (c.length≤24)&&cellsAll c)
theorem cellsAll_iff (l:List Int):cellsAll l=true↔∀j,j<l.length→0≤rd l (j:Int)∧rd l (j:Int)≤23:=by
 unfold cellsAll;rw [List.all_eq_true]
 constructor
 ·intro h j hj;exact of_decide_eq_true (h _ (rd_mem l j hj))
 ·intro h x hx
  obtain ⟨j,hj,rfl⟩:=List.getElem_of_mem hx
  have:=h j hj;rw [rd_nat l j hj] at this;exact decide_eq_true this
theorem l24Places_eq (l:List Int) (hl:l.length≤2097152) (k:Nat) (hk:l.length<k):spec_l24Places.f k l=some (decide (l.length≤24)&&cellsAll l):=by
 unfold spec_l24Places.f
 refine for_all (L:=fun k i=>spec_l24Places.l0 k l (i:Int)) (n:=l.length) (fun j=>0≤rd l (j:Int)∧rd l (j:Int)≤23) ?_ ?_ (decide ((l.length:Int)≤24)) ?_ ?_ k hk
 ·intro k i hi hp
  simp only [spec_l24Places.l0]
  rw [if_pos (by omega),if_pos (by omega),l1In_eq,decide_eq_true hp,Option.bind_some,if_pos rfl,wrap_succ (by omega)]
 ·intro k i hi hp
  simp only [spec_l24Places.l0]
  rw [if_pos (by omega),if_pos (by omega),l1In_eq,decide_eq_false hp,Option.bind_some,if_neg (by simp)]
 ·intro k
  simp only [spec_l24Places.l0]
  rw [if_neg (by omega)]
 ·rw [Bool.and_eq_true,cellsAll_iff,decide_eq_true_iff,decide_eq_true_iff]
  constructor
  ·rintro ⟨h1,h2⟩;exact ⟨h2,by omega⟩
  ·rintro ⟨h1,h2⟩;exact ⟨by omega,h1⟩
theorem specWatchOk_eq (s c:List Int) (hs:s.length≤1048576) (hc:c.length≤1048576) (k:Nat) (hk:1048600<k):spec_WatchOk.f k s c=some (watchB s c):=by
 unfold spec_WatchOk.f watchB
 rw [l24Places_eq s (by omega) k (by omega),l24Places_eq c (by omega) k (by omega),Option.bind_some]
 cases decide (s.length≤24)&&cellsAll s<;>rfl
theorem concat2_eq (s c:List Int) (hs:s.length≤1048576) (hc:c.length≤1048576) (k:Nat) (hk:20<k):slices_Concat_int_int.f k [s,c]=some (s++c):=by
 obtain ⟨k,rfl⟩: ∃m,k=m+6:=⟨k-6,by omega⟩
 unfold slices_Concat_int_int.f
 have r0:rd_L1 [s,c] 0=s:=rfl
 have r1:rd_L1 [s,c] 1=c:=rfl
 have w1:wrap64 (0+(s.length:Int))=s.length:=by unfold wrap64;omega
 have w2:wrap64 ((s.length:Int)+(c.length:Int))=(s.length:Int)+c.length:=by unfold wrap64;omega
 have w3:wrap64 (0+1)=1:=by unfold wrap64;omega
 have w4:wrap64 (1+1)=2:=by unfold wrap64;omega
 have len:(([s,c]:List (List Int)).length:Int)=2:=rfl
 rw [len,slices_Concat_int_int.l0,if_pos (by decide),if_pos (by decide),if_pos (by rw [len];decide),r0,w1,if_neg (by omega),w3,slices_Concat_int_int.l0,if_pos (by decide),if_pos (by decide),if_pos (by rw [len];decide),r1,w2,if_neg (by omega),w4,
  slices_Concat_int_int.l0,if_neg (by decide),slices_Grow_at_nil.f,if_pos (by omega),Option.bind_some,len,slices_Concat_int_int.l1,if_pos (by decide),if_pos (by decide),if_pos (by rw [len];decide),r0,if_pos (by show 0+_<_;omega),w3,List.nil_append,
  slices_Concat_int_int.l1,if_pos (by decide),if_pos (by decide),if_pos (by rw [len];decide),r1,if_pos (by omega),w4,slices_Concat_int_int.l1,if_neg (by decide)]
theorem implWatchOk_eq (s c:List Int) (hs:s.length≤1048576) (hc:c.length≤1048576) (k:Nat) (hk:3000000<k):impl_WatchOk.f k s c=some (watchB s c):=by
 unfold impl_WatchOk.f watchB
 by_cases h1:s.length≤24
 ·rw [if_pos (by omega),decide_eq_true h1,Bool.true_and]
  by_cases h2:c.length≤24
  ·rw [if_pos (by omega),decide_eq_true h2,Bool.true_and,concat2_eq s c hs hc k (by omega),Option.bind_some]
   unfold slices_ContainsFunc_at_impl_WatchOk_1.f slices_IndexFunc_at_impl_WatchOk_1.f
   have hl:(s++c).length≤100:=by rw [List.length_append];omega
   have hf: ∀x,impl_WatchOk_1.f x=some (!decide (0≤x∧x≤23)):=fun x=>by unfold impl_WatchOk_1.f;rw [isCell_eq];rfl
   have H:=idx_any (n:=(s++c).length) (fun k i=>slices_IndexFunc_at_impl_WatchOk_1.l0 k (s++c) ((s++c).length:Int) (i:Int)) (fun i=>!decide (0≤rd (s++c) (i:Int)∧rd (s++c) (i:Int)≤23)) ?_ ?_ ?_ (!(cellsAll (s++c))) ?_ k (by omega)
   ·obtain ⟨v,e,hv⟩:=H
    have e':slices_IndexFunc_at_impl_WatchOk_1.l0 k (s++c) ((s++c).length:Int) 0=some v:=e
    rw [e',Option.bind_some,hv,Option.bind_some,Bool.not_not]
    unfold cellsAll;rw [List.all_append]
   ·intro k i hi hq
    simp only [slices_IndexFunc_at_impl_WatchOk_1.l0]
    rw [if_pos (by omega),if_pos (by omega),if_pos (by omega),hf,hq,Option.bind_some,if_neg (by simp),wrap_succ (by omega)]
   ·intro k i hi hq
    simp only [slices_IndexFunc_at_impl_WatchOk_1.l0]
    rw [if_pos (by omega),if_pos (by omega),if_pos (by omega),hf,hq,Option.bind_some,if_pos rfl]
   ·intro k
    simp only [slices_IndexFunc_at_impl_WatchOk_1.l0]
    rw [if_neg (by omega)]
   ·constructor
    ·intro h
     refine Classical.byContradiction fun hn=>?_
     have:cellsAll (s++c)=true:=(cellsAll_iff _).2 fun j hj=>Classical.byContradiction fun hh=>hn ⟨j,hj,by rw [decide_eq_false hh];rfl⟩
     rw [this] at h;exact absurd h (by simp)
    ·rintro ⟨j,hj,hq⟩
     cases hc':cellsAll (s++c)
     ·rfl
     ·have:=(cellsAll_iff _).1 hc' j hj
      rw [decide_eq_true this] at hq;exact absurd hq (by simp)
  ·rw [if_neg (by omega),decide_eq_false h2,Bool.false_and,Bool.and_false]
 ·rw [if_neg (by omega),decide_eq_false h1,Bool.false_and,Bool.false_and]
theorem implHartOk_eq (regs:List Int) (pc st:Int) (hl:regs.length≤2097152) (k:Nat) (hk:regs.length<k):impl_HartOk.f k regs pc st=some (hartB regs pc st):=by
 unfold impl_HartOk.f hartB
 simp only [wordsOk_eq regs 4 hl k hk,isCell_eq,from_eq,Option.bind_some,ite_some']
theorem specHartOk_eq (regs:List Int) (pc st:Int) (hl:regs.length≤2097152) (k:Nat) (hk:regs.length<k):spec_HartOk.f k regs pc st=some (hartB regs pc st):=by
 unfold spec_HartOk.f hartB
 simp only [l1Words_eq regs 4 hl k hk,l1In_eq,Option.bind_some,ite_some']
theorem eqHart_same (r:List Int) (p s:Int) (hl:r.length≤1048576) (k:Nat) (hk:r.length<k):laws_eqHart.f k r p s r p s=some true:=by
 unfold laws_eqHart.f
 rw [eqIntS_eq r r hl k hk,decide_eq_true rfl,Option.bind_some,if_pos rfl,if_pos rfl,if_pos rfl]
theorem szIntS_eq (l:List Int) (a:Int) (h0:0≤a) (h1:a≤1048576) (hl:l.length≤maxLen):laws_szIntS.f l a=some (if a-(l.length:Int)<0 then-1 else a-(l.length:Int)):=by
 unfold maxLen at hl
 unfold laws_szIntS.f
 rw [wrap_small (by omega) (by omega)]
 by_cases h:a-(l.length:Int)<0
 ·rw [if_pos h,if_pos h]
 ·rw [if_neg h,if_neg h]
theorem szIntS_ex (l:List Int) (a:Int) (h0:0≤a) (h1:a≤1048576) (hl:l.length≤maxLen): ∃r,laws_szIntS.f l a=some r∧ -1≤r∧(0≤r→r≤a∧l.length≤1048576):=by
 refine ⟨_,szIntS_eq l a h0 h1 hl,?_,?_⟩
 ·by_cases h:a-(l.length:Int)<0
  ·rw [if_pos h];omega
  ·rw [if_neg h];omega
 ·by_cases h:a-(l.length:Int)<0
  ·rw [if_pos h];omega
  ·rw [if_neg h];omega
theorem szWatch_ex (s c:List Int) (a:Int) (h0:0≤a) (h1:a≤1048576) (hs:s.length≤maxLen) (hc:c.length≤maxLen): ∃r,laws_szWatch.f s c a=some r∧(0≤r→s.length≤1048576∧c.length≤1048576):=by
 unfold laws_szWatch.f
 obtain ⟨r,h,h2,h3⟩:=szIntS_ex s a h0 h1 hs
 rw [h,Option.bind_some]
 by_cases hr:r<0
 ·exact ⟨-1,by rw [if_pos hr],by omega⟩
 ·obtain ⟨r',h',h2',h3'⟩:=szIntS_ex c r (by omega) (by have:=h3 (by omega);omega) hc
  rw [if_neg hr,h',Option.bind_some]
  by_cases hr':r'<0
  ·exact ⟨-1,by rw [if_pos hr'],by omega⟩
  ·exact ⟨r',by rw [if_neg hr'],fun _=>⟨(h3 (by omega)).2,(h3' (by omega)).2⟩⟩
theorem szHart_ex (regs:List Int) (p s:Int) (a:Int) (h0:0≤a) (h1:a≤1048576) (hl:regs.length≤maxLen): ∃r,laws_szHart.f regs p s a=some r∧ -1≤r∧(0≤r→r≤a∧regs.length≤1048576):=by
 unfold laws_szHart.f
 obtain ⟨r,h,h2,h3⟩:=szIntS_ex regs a h0 h1 hl
 rw [h,Option.bind_some]
 by_cases hr:r<0
 ·exact ⟨-1,by rw [if_pos hr],by omega,by omega⟩
 ·exact ⟨r,by rw [if_neg hr],h2,h3⟩
theorem rdLHart (l:List S95) (i:Nat) (h:i<l.length):rd_T95 l (i:Int)=l[i]:=by
 unfold rd_T95;simp [List.getD,h]
theorem szHartS_l (l:List S95) (hl:l.length≤1048576) (hx: ∀x∈l,x.f0.length≤maxLen): ∀(k i:Nat) (a:Int),0≤a→a≤1048576→i≤l.length→l.length<i+k→
  ∃r,laws_szHartS.l0 k l a (i:Int)=some r∧(0≤r→∀j (hj:j<l.length),i≤j→(l[j]).f0.length≤1048576)
 |0,i,_,_,_,_,_=>by omega
 |k+1,i,a,h0,h1,hi,hk=>by
  rw [laws_szHartS.l0]
  by_cases h:i<l.length
  ·rw [if_pos (by omega),if_pos (by omega),rdLHart l i h]
   obtain ⟨r,e,h2,h3⟩:=szHart_ex (l[i]).f0 (l[i]).f1 (l[i]).f2 a h0 h1 (hx _ (List.getElem_mem h))
   rw [e,Option.bind_some]
   by_cases hr:r<0
   ·exact ⟨-1,by rw [if_pos hr],by omega⟩
   ·have h3':=h3 (by omega)
    rw [if_neg hr,wrap_succ (by omega)]
    obtain ⟨r',e',h4⟩:=szHartS_l l hl hx k (i+1) r (by omega) (by omega) (by omega) (by omega)
    refine ⟨r',e',fun h5 j hj hij=>?_⟩
    by_cases c:j=i
    ·subst c;exact h3'.2
    ·exact h4 h5 j hj (by omega)
  ·rw [if_neg (by omega)]
   exact ⟨a,rfl,fun _ j hj hij=>by omega⟩
theorem szHartS_ex (l:List S95) (a:Int) (h0:0≤a) (h1:a≤1048576) (hm:l.length≤maxLen) (hx: ∀x∈l,x.f0.length≤maxLen) (k:Nat) (hk:1048577<k):
  ∃r,laws_szHartS.f k l a=some r∧(0≤r→l.length≤1048576∧∀x∈l,x.f0.length≤1048576):=by
 unfold maxLen at hm
 unfold laws_szHartS.f
 rw [wrap_small (by omega) (by omega)]
 by_cases h:a-(l.length:Int)<0
 ·exact ⟨-1,by rw [if_pos h],by omega⟩
 ·rw [if_neg h]
  obtain ⟨r,e,h2⟩:=szHartS_l l (by omega) hx k 0 (a-(l.length:Int)) (by omega) (by omega) (by omega) (by omega)
  refine ⟨r,e,fun h3=>⟨by omega,fun x hxm=>?_⟩⟩
  obtain ⟨j,hj,rfl⟩:=List.getElem_of_mem hxm
  exact h2 h3 j hj (by omega)
theorem toHart_eq (r:List Int) (p s:Int) (hl:r.length≤1048576) (k:Nat) (hk:r.length<k):laws_toHart.f k r p s=some (r,p,s):=by
 unfold laws_toHart.f
 rw [toIntS_eq r hl k hk];rfl
def toHartV (x:S95):S53:=⟨x.f0,x.f1,x.f2⟩
theorem toHartS_eq (l:List S95) (hl:l.length≤1048576) (hx: ∀x∈l,x.f0.length≤1048576) (k:Nat) (hk:2200000<k):laws_toHartS.f k l=some (l.map toHartV):=by
 unfold laws_toHartS.f
 rw [if_pos (by omega),if_pos (by simp;omega)]
 have h:=for_st l.length (fun k' i (s:List S53)=>laws_toHartS.l0 (k'+1048580) l s (i:Int)) (fun i=>(l.map toHartV).take i++(List.replicate l.length z53).drop i) (l.map toHartV) ?_ ?_ (k-1048580) 0 (Nat.zero_le _) (by omega)
 ·rw [show k-1048580+1048580=k by omega] at h
  simpa using h
 ·intro k' i hi
  rw [show k'+1+1048580=(k'+1048580)+1 by omega,laws_toHartS.l0]
  have hx':=hx _ (List.getElem_mem hi)
  rw [if_pos (by omega),if_pos (by omega),rdLHart l i hi,toHart_eq _ _ _ hx' _ (by omega),Option.bind_some,if_pos (by simp;omega),wrap_succ (by omega)]
  simp only [Int.toNat_natCast]
  have e:(⟨(l[i]).f0,(l[i]).f1,(l[i]).f2⟩:S53)=(l.map toHartV)[i]'(by simpa using hi):=by simp [toHartV]
  rw [e,set_step _ _ _ (by simpa using hi) (by simp)]
 ·intro k'
  rw [show k'+1+1048580=(k'+1048580)+1 by omega,laws_toHartS.l0]
  rw [if_neg (by omega)];simp [List.take_of_length_le]
theorem rdHart (l:List S53) (i:Nat) (h:i<l.length):rd_T53 l (i:Int)=l[i]:=by
 unfold rd_T53;simp [List.getD,h]
theorem eqHartS_same (l:List S53) (hl:l.length≤1048576) (hx: ∀x∈l,x.f0.length≤1048576) (k:Nat) (hk:2200000<k):laws_eqHartS.f k l l=some true:=by
 unfold laws_eqHartS.f
 rw [if_pos rfl]
 have h:=for_st l.length (fun k' i (_:Unit)=>laws_eqHartS.l0 (k'+1048580) l l (i:Int)) (fun _=>()) true ?_ ?_ (k-1048580) 0 (Nat.zero_le _) (by omega)
 ·rw [show k-1048580+1048580=k by omega] at h;exact h
 ·intro k' i hi
  have hx':=hx _ (List.getElem_mem hi)
  rw [show k'+1+1048580=(k'+1048580)+1 by omega,laws_eqHartS.l0]
  rw [if_pos (by omega),if_pos (by omega),if_pos (by omega),rdHart l i hi,eqHart_same _ _ _ hx' _ (by omega),Option.bind_some,if_pos rfl,wrap_succ (by omega)]
 ·intro k'
  rw [show k'+1+1048580=(k'+1048580)+1 by omega,laws_eqHartS.l0]
  rw [if_neg (by omega)]
theorem implAddress_eq (n:Int):impl_address.f n=some (n % 24):=by
 unfold impl_address.f
 have b:=tmod_bd n 24 (by omega)
 rw [wrap_small (by omega) (by omega),tmod_up n 24 (by omega) (by omega)]
theorem implWrapped_eq (n:Int):impl_wrapped.f n=some (n % 65536):=by
 unfold impl_wrapped.f
 have b:=tmod_bd n 65536 (by omega)
 rw [wrap_small (x:=Int.tmod n 65536+65535) (by omega) (by omega),wrap_small (by omega) (by omega),show Int.tmod n 65536+65535+1=Int.tmod n 65536+65536 by omega,tmod_up n 65536 (by omega) (by omega)]
def opV (r:List Int) (pc st:Int) (o i a b n got:Int):List Int×Int×Int×Int:=
 if o=1 then (r.set i.toNat n,(pc+1) % 24,st,-1)
 else if o=2 then (r.set i.toNat ((rd r a+rd r b) % 65536),(pc+1) % 24,st,-1)
 else if o=10 then (r.set i.toNat ((rd r a-rd r b) % 65536),(pc+1) % 24,st,-1)
 else if o=3 then (r.set i.toNat ((rd r a+n) % 65536),(pc+1) % 24,st,-1)
 else if o=4 then (r.set i.toNat got,(pc+1) % 24,st,-1)
 else if o=5 then (r,(pc+1) % 24,st,rd r b)
 else if o=6 then (r.set i.toNat got,(pc+1) % 24,st,(got+rd r b) % 65536)
 else if o=7 then (if rd r a=0 then (r,n % 24,st,-1) else (r,(pc+1) % 24,st,-1))
 else if o=8 then (r,n % 24,st,-1)
 else if o=9 then (r,pc,1,-1)
 else (r,(pc+1) % 24,st,-1)
def workV (r:List Int) (pc st:Int) (o i a b n got:Int):List Int×Int×Int×Int:=
 if hartB r pc st=true∧st=0∧(0≤got∧got≤65535) then (if insOkB o i a b n=true then opV r pc st o i a b n got else (r,pc,2,-1)) else (r,pc,st,-1)
theorem hartB_parts {r:List Int} {p s:Int} (h:hartB r p s=true):r.length=4∧(∀x,x∈r→0≤x∧x≤65535)∧(0≤p∧p≤23)∧(0≤s∧s≤2):=by
 have l:=hartB_len h
 unfold hartB at h;rw [Bool.and_eq_true,Bool.and_eq_true] at h
 exact ⟨l,fun x hx=>wordsB_mem h.1 x hx,of_decide_eq_true h.2.1,of_decide_eq_true h.2.2⟩
theorem rd_word {r:List Int} (hw: ∀x,x∈r→0≤x∧x≤65535) (i:Int):0≤rd r i∧rd r i≤65535:=by
 unfold rd
 rw [List.getD_eq_getElem?_getD]
 cases h:r[i.toNat]? with
 |none=>simp
 |some x=>exact hw x (List.mem_of_getElem? h)
theorem implWork_j2 (k:Nat) (r:List Int) (pc st o i a b n got:Int) (hr:r.length=4) (hw: ∀x,x∈r→0≤x∧x≤65535) (hg:0≤got∧got≤65535) (hi:0≤i∧i≤3) (hn:0≤n∧n≤63):
  impl_Work.j2 (k+2) got (rd r a) (rd r b) (-1) ((pc+1) % 24) o r pc st o i a b n=some (opV r pc st o i a b n got):=by
 have wa:=rd_word hw a
 have wb:=rd_word hw b
 rw [impl_Work.j2]
 unfold opV
 rw [wrap_small (x:=rd r a+rd r b) (by omega) (by omega),wrap_small (x:=rd r a-rd r b) (by omega) (by omega),wrap_small (x:=rd r a+n) (by omega) (by omega),wrap_small (x:=got+rd r b) (by omega) (by omega)]
 simp only [implWrapped_eq,implAddress_eq,Option.bind_some]
 have h1:i<(r.length:Int):=by omega
 simp only [if_pos hi.1,if_pos h1]
 by_cases c1:o=1
 ·rw [if_pos c1,if_pos c1]
  all_goals (try rw [impl_Work.j3])
 rw [if_neg c1,if_neg c1]
 by_cases c2:o=2
 ·rw [if_pos c2,if_pos c2]
  all_goals (try rw [impl_Work.j3])
 rw [if_neg c2,if_neg c2]
 by_cases c3:o=10
 ·rw [if_pos c3,if_pos c3]
  all_goals (try rw [impl_Work.j3])
 rw [if_neg c3,if_neg c3]
 by_cases c4:o=3
 ·rw [if_pos c4,if_pos c4]
  all_goals (try rw [impl_Work.j3])
 rw [if_neg c4,if_neg c4]
 by_cases c5:o=4
 ·rw [if_pos c5,if_pos c5]
  all_goals (try rw [impl_Work.j3])
 rw [if_neg c5,if_neg c5]
 by_cases c6:o=5
 ·rw [if_pos c6,if_pos c6]
  all_goals (try rw [impl_Work.j3])
 rw [if_neg c6,if_neg c6]
 by_cases c7:o=6
 ·rw [if_pos c7,if_pos c7]
  all_goals (try rw [impl_Work.j3])
 rw [if_neg c7,if_neg c7]
 by_cases c8:o=7
 ·rw [if_pos c8,if_pos c8]
  by_cases c:rd r a=0
  ·rw [if_pos c,if_pos c]
   all_goals (try rw [impl_Work.j3])
  ·rw [if_neg c,if_neg c]
   all_goals (try rw [impl_Work.j3])
 rw [if_neg c8,if_neg c8]
 by_cases c9:o=8
 ·rw [if_pos c9,if_pos c9]
  all_goals (try rw [impl_Work.j3])
 rw [if_neg c9,if_neg c9]
 by_cases c10:o=9
 ·rw [if_pos c10,if_pos c10]
  all_goals (try rw [impl_Work.j3])
 rw [if_neg c10,if_neg c10]
 all_goals (try rw [impl_Work.j3])
theorem implWork_eq (r:List Int) (pc st o i a b n got:Int) (hl:r.length≤2097152) (k:Nat) (hk:r.length+10<k):impl_Work.f k r pc st o i a b n got=some (workV r pc st o i a b n got):=by
 obtain ⟨k,rfl⟩: ∃m,k=m+4:=⟨k-4,by omega⟩
 unfold impl_Work.f impl_copyHart.f slices_Clone_int_int.f workV
 rw [if_pos (by omega),Option.bind_some,Option.bind_some]
 simp only [implHartOk_eq r pc st (by omega) (k+4) (by omega),Option.bind_some]
 have jt:impl_Work.j0 (k+4) got true r pc st o i a b n=some (r,pc,st,-1):=by rw [impl_Work.j0,if_pos rfl]
 by_cases h:hartB r pc st=true
 ·obtain ⟨p1,p2,p3,p4⟩:=hartB_parts h
  rw [if_pos h]
  by_cases hs:st=0
  ·rw [if_pos hs,isWord_eq,Option.bind_some]
   by_cases hg:0≤got∧got≤65535
   ·rw [if_pos ⟨h,hs,hg⟩,decide_eq_true hg,Bool.not_true,impl_Work.j0,if_neg (by simp)]
    unfold impl_InsOk.f
    rw [Option.bind_some]
    by_cases hi:insOkB o i a b n=true
    ·obtain ⟨b0,b0',b1,b1',b2,b2',b3,b3',b4,b4'⟩:=insOkB_bounds hi
     rw [if_pos hi,hi,Bool.not_true,impl_Work.j1,if_neg (by simp),if_pos b2,if_pos (by omega),if_pos b3,if_pos (by omega),implAddress_eq,Option.bind_some,wrap_small (x:=pc+1) (by omega) (by omega)]
     exact implWork_j2 k r pc st o i a b n got p1 p2 hg ⟨b1,b1'⟩ ⟨b4,b4'⟩
    ·have hi':insOkB o i a b n=false:=by simpa using hi
     rw [if_neg hi,hi',Bool.not_false,impl_Work.j1,if_pos rfl]
   ·rw [if_neg (fun c=>hg c.2.2),decide_eq_false hg,Bool.not_false,jt]
  ·rw [if_neg hs,jt,if_neg (fun c=>hs c.2.1)]
 ·rw [if_neg h,jt,if_neg (fun c=>h c.1)]
def decodeB (w:Int):Bool:=decide (0≤w∧w≤65535)&&insOkB (w % 16) (w / 16 % 4) (w / 64 % 4) (w / 256 % 4) (w / 1024)
def decodeV (w:Int):Int×Int×Int×Int×Int×Bool:=if decodeB w=true then (w % 16,w / 16 % 4,w / 64 % 4,w / 256 % 4,w / 1024,true) else (0,0,0,0,0,false)
theorem implDecode_eq (w:Int):impl_Decode.f w=some (decodeV w):=by
 unfold impl_Decode.f decodeV decodeB impl_InsOk.f
 rw [isWord_eq,Option.bind_some]
 by_cases h:0≤w∧w≤65535
 ·rw [decide_eq_true h,if_pos rfl,Bool.true_and]
  have e1:Int.tmod w 16=w % 16:=tmod_pos _ _ h.1
  have e2:Int.tmod (wrap64 (Int.tdiv w 16)) 4=w / 16 % 4:=by rw [tdiv_pos _ _ h.1,wrap_small (by omega) (by omega),tmod_pos _ _ (by omega)]
  have e3:Int.tmod (wrap64 (Int.tdiv w 64)) 4=w / 64 % 4:=by rw [tdiv_pos _ _ h.1,wrap_small (by omega) (by omega),tmod_pos _ _ (by omega)]
  have e4:Int.tmod (wrap64 (Int.tdiv w 256)) 4=w / 256 % 4:=by rw [tdiv_pos _ _ h.1,wrap_small (by omega) (by omega),tmod_pos _ _ (by omega)]
  have e5:wrap64 (Int.tdiv w 1024)=w / 1024:=by rw [tdiv_pos _ _ h.1,wrap_small (by omega) (by omega)]
  rw [e1,e2,e3,e4,e5,Option.bind_some]
  by_cases c:insOkB (w % 16) (w / 16 % 4) (w / 64 % 4) (w / 256 % 4) (w / 1024)=true
  ·rw [if_pos c,if_pos c]
  ·rw [if_neg c,if_neg c]
 ·rw [decide_eq_false h,if_neg (by simp),Bool.false_and,if_neg (by simp)]
def targetV (o i a b n:Int) (r:List Int):Int:=if insOkB o i a b n=true∧(o=4∨o=5∨o=6)∧r.length=4 then wrap64 (rd r a+n) % 24 else-1
theorem implTarget_eq (o i a b n:Int) (r:List Int):impl_Target.f o i a b n r=some (targetV o i a b n r):=by
 unfold impl_Target.f targetV impl_InsOk.f impl_aims.f
 rw [Option.bind_some]
 by_cases h:insOkB o i a b n=true
 ·have hb:=insOkB_bounds h
  rw [if_pos h]
  have ha:(if o=4 then some true else if o=5 then some true else some (o == 6))=some (decide (o=4∨o=5∨o=6)):=by
   by_cases c4:o=4
   ·rw [if_pos c4,decide_eq_true (.inl c4)]
   ·rw [if_neg c4]
    by_cases c5:o=5
    ·rw [if_pos c5,decide_eq_true (.inr (.inl c5))]
    ·rw [if_neg c5];congr 1;rw [Bool.eq_iff_iff];simp [c4,c5]
  rw [ha,Option.bind_some]
  by_cases c:o=4∨o=5∨o=6
  ·rw [decide_eq_true c,if_pos rfl]
   by_cases hl:r.length=4
   ·rw [if_pos (by omega),if_pos (by omega),if_pos (by omega),implAddress_eq,Option.bind_some,if_pos ⟨h,c,hl⟩]
   ·rw [if_neg (by omega),if_neg (fun x=>hl x.2.2)]
  ·rw [decide_eq_false c,if_neg (by simp),if_neg (fun x=>c x.2.1)]
 ·rw [if_neg h,if_neg (fun x=>h x.1)]
abbrev Hh:=S53
def hB (h:Hh):Bool:=hartB h.f0 h.f1 h.f2
def gotV (m:List Int) (h:Hh):Int:=if 0≤targetV (decodeV (rd m h.f1)).1 (decodeV (rd m h.f1)).2.1 (decodeV (rd m h.f1)).2.2.1 (decodeV (rd m h.f1)).2.2.2.1 (decodeV (rd m h.f1)).2.2.2.2.1 h.f0 then rd m (targetV (decodeV (rd m h.f1)).1 (decodeV (rd m h.f1)).2.1 (decodeV (rd m h.f1)).2.2.1 (decodeV (rd m h.f1)).2.2.2.1 (decodeV (rd m h.f1)).2.2.2.2.1 h.f0) else 0
def tgtV (m:List Int) (h:Hh):Int:=targetV (decodeV (rd m h.f1)).1 (decodeV (rd m h.f1)).2.1 (decodeV (rd m h.f1)).2.2.1 (decodeV (rd m h.f1)).2.2.2.1 (decodeV (rd m h.f1)).2.2.2.2.1 h.f0
def wkV (m:List Int) (h:Hh):List Int×Int×Int×Int:=workV h.f0 h.f1 h.f2 (decodeV (rd m h.f1)).1 (decodeV (rd m h.f1)).2.1 (decodeV (rd m h.f1)).2.2.1 (decodeV (rd m h.f1)).2.2.2.1 (decodeV (rd m h.f1)).2.2.2.2.1 (gotV m h)
def stepV (m:List Int) (h:Hh):List Int×Hh:=(if 0≤(wkV m h).2.2.2 then m.set (tgtV m h).toNat (wkV m h).2.2.2 else m,⟨(wkV m h).1,(wkV m h).2.1,(wkV m h).2.2.1⟩)
theorem tgt_range (o i a b n:Int) (r:List Int):targetV o i a b n r= -1∨0≤targetV o i a b n r∧targetV o i a b n r≤23:=by
 unfold targetV
 by_cases h:insOkB o i a b n=true∧(o=4∨o=5∨o=6)∧r.length=4
 ·rw [if_pos h];right;omega
 ·rw [if_neg h];left;rfl
theorem put_tgt {r:List Int} {pc st o i a b n got:Int} (h:0≤(workV r pc st o i a b n got).2.2.2):0≤targetV o i a b n r:=by
 unfold workV at h
 by_cases c:hartB r pc st=true∧st=0∧(0≤got∧got≤65535)
 ·rw [if_pos c] at h
  by_cases hi:insOkB o i a b n=true
  ·rw [if_pos hi] at h
   have hl:=hartB_len c.1
   unfold targetV
   by_cases c5:o=5
   ·rw [if_pos ⟨hi,.inr (.inl c5),hl⟩];omega
   ·by_cases c6:o=6
    ·rw [if_pos ⟨hi,.inr (.inr c6),hl⟩];omega
    ·exfalso
     unfold opV at h
     rw [if_neg c5,if_neg c6] at h
     revert h
     split
     ·simp
     split
     ·simp
     split
     ·simp
     split
     ·simp
     split
     ·simp
     split
     ·split<;>simp
     split
     ·simp
     split<;>simp
  ·rw [if_neg hi] at h;simp at h
 ·rw [if_neg c] at h;simp at h
theorem implStep_eq (m:List Int) (h:Hh) (hm:m.length=24) (hh:hB h=true) (k:Nat) (hk:20<k):impl_step.f k m h.f0 h.f1 h.f2=some ((stepV m h).2.f0,(stepV m h).2.f1,(stepV m h).2.f2,(stepV m h).1):=by
 obtain ⟨p1,p2,p3,p4⟩:=hartB_parts hh
 unfold impl_step.f stepV
 rw [if_pos p3.1,if_pos (by omega),implDecode_eq,Option.bind_some]
 simp only [implTarget_eq,Option.bind_some]
 rcases tgt_range (decodeV (rd m h.f1)).1 (decodeV (rd m h.f1)).2.1 (decodeV (rd m h.f1)).2.2.1 (decodeV (rd m h.f1)).2.2.2.1 (decodeV (rd m h.f1)).2.2.2.2.1 h.f0 with t|t
 ·rw [if_neg (by omega),implWork_eq _ _ _ _ _ _ _ _ _ (by omega) k (by omega),Option.bind_some]
  have e:gotV m h=0:=by unfold gotV;rw [if_neg (by omega)]
  unfold wkV;rw [e]
  by_cases c:0≤(workV h.f0 h.f1 h.f2 (decodeV (rd m h.f1)).1 (decodeV (rd m h.f1)).2.1 (decodeV (rd m h.f1)).2.2.1 (decodeV (rd m h.f1)).2.2.2.1 (decodeV (rd m h.f1)).2.2.2.2.1 0).2.2.2
  ·have:=put_tgt c;omega
  ·rw [if_neg c,if_neg c]
 ·have e:gotV m h=rd m (tgtV m h):=by unfold gotV tgtV;rw [if_pos t.1]
  rw [if_pos t.1,if_pos t.1,if_pos (by omega),implWork_eq _ _ _ _ _ _ _ _ _ (by omega) k (by omega),Option.bind_some]
  unfold wkV;rw [e];unfold tgtV
  by_cases c:0≤(workV h.f0 h.f1 h.f2 (decodeV (rd m h.f1)).1 (decodeV (rd m h.f1)).2.1 (decodeV (rd m h.f1)).2.2.1 (decodeV (rd m h.f1)).2.2.2.1 (decodeV (rd m h.f1)).2.2.2.2.1 (rd m (targetV (decodeV (rd m h.f1)).1 (decodeV (rd m h.f1)).2.1 (decodeV (rd m h.f1)).2.2.1 (decodeV (rd m h.f1)).2.2.2.1 (decodeV (rd m h.f1)).2.2.2.2.1 h.f0))).2.2.2
  ·rw [if_pos c,if_pos c]
  ·rw [if_neg c,if_neg c]
theorem rdH (l:List Hh) (i:Nat) (h:i<l.length):rd_T53 l (i:Int)=l[i]:=by
 unfold rd_T53;simp [List.getD,h]
def shortH (l:List Hh):Prop:=∀h,h∈l→h.f0.length≤2097152
theorem copyHarts_eq (l:List Hh) (hl:l.length≤2097152) (hb:shortH l) (k:Nat) (hk:l.length<k):impl_copyHarts.f k l=some l:=by
 unfold impl_copyHarts.f
 have h:=for_st l.length (fun k i (s:List Hh)=>impl_copyHarts.l0 k s l (l.length:Int) (i:Int)) (fun i=>l.take i) l ?_ ?_ k 0 (Nat.zero_le _) (by omega)
 ·simpa using h
 ·intro k i hi
  simp only [impl_copyHarts.l0]
  have hx:=hb _ (List.getElem_mem hi)
  rw [if_pos (by omega),if_pos (by omega),if_pos (by omega),rdH l i hi]
  unfold impl_copyHart.f slices_Clone_int_int.f
  rw [if_pos (by omega),Option.bind_some,Option.bind_some,if_pos (by simp;omega),wrap_succ (by omega),←snoc_step l i hi]
 ·intro k
  simp only [impl_copyHarts.l0]
  rw [if_neg (by omega),List.take_of_length_le (Nat.le_refl _)]
def goB (h:Hh):Bool:=hB h&&(h.f2 == 0)
theorem implGoes_eq (h:Hh) (hl:h.f0.length≤2097152) (k:Nat) (hk:h.f0.length<k):impl_goes.f k h.f0 h.f1 h.f2=some (goB h):=by
 unfold impl_goes.f goB hB
 rw [implHartOk_eq _ _ _ hl k hk,Option.bind_some]
 cases hartB h.f0 h.f1 h.f2<;>rfl
def mayGo (hs:List Hh) (i:Int):Prop:=0≤i∧i<(hs.length:Int)∧goB (rd_T53 hs i)=true
instance (hs:List Hh) (i:Int):Decidable (mayGo hs i):=by unfold mayGo;infer_instance
def nextV (s:List Int×List Hh) (i:Int):List Int×List Hh:=if mayGo s.2 i then ((stepV s.1 (rd_T53 s.2 i)).1,s.2.set i.toNat (stepV s.1 (rd_T53 s.2 i)).2) else s
theorem stepV_len (m:List Int) (h:Hh):(stepV m h).1.length=m.length:=by
 unfold stepV;dsimp only;split
 ·rw [List.length_set]
 ·rfl
theorem nextV_len (s:List Int×List Hh) (i:Int):(nextV s i).1.length=s.1.length∧(nextV s i).2.length=s.2.length:=by
 unfold nextV;split
 ·exact ⟨stepV_len _ _,by rw [List.length_set]⟩
 ·exact ⟨rfl,rfl⟩
theorem stepV_short (m:List Int) (h:Hh) (hl:h.f0.length≤2097152):(stepV m h).2.f0.length≤2097152:=by
 unfold stepV wkV;dsimp only
 unfold workV;split
 ·split
  ·unfold opV
   split
   ·rw [List.length_set];exact hl
   split
   ·rw [List.length_set];exact hl
   split
   ·rw [List.length_set];exact hl
   split
   ·rw [List.length_set];exact hl
   split
   ·rw [List.length_set];exact hl
   split
   ·exact hl
   split
   ·rw [List.length_set];exact hl
   split
   ·split<;>exact hl
   split
   ·exact hl
   split<;>exact hl
  ·exact hl
 ·exact hl
theorem rdH_mem (l:List Hh) (i:Int) (h0:0≤i) (h1:i<(l.length:Int)):rd_T53 l i∈l:=by
 obtain ⟨j,rfl⟩: ∃j:Nat,i=(j:Int):=⟨i.toNat,by omega⟩
 rw [rdH l j (by omega)];exact List.getElem_mem _
theorem nextV_short (s:List Int×List Hh) (i:Int) (h:shortH s.2):shortH (nextV s i).2:=by
 unfold nextV;split
 ·rename_i c
  intro x hx
  rcases List.mem_or_eq_of_mem_set hx with hx|rfl
  ·exact h x hx
  ·exact stepV_short _ _ (h _ (rdH_mem _ _ c.1 c.2.1))
 ·exact h
def flatV (m:List Int) (h:Hh):List Int×Hh:=if wordsB m 24=true∧goB h=true then stepV m h else (m,h)
theorem hartB_mk {r:List Int} {p s:Int} (h1:r.length=4) (h2: ∀x∈r,0≤x∧x≤65535) (h3:0≤p∧p≤23) (h4:0≤s∧s≤2):hartB r p s=true:=by
 unfold hartB wordsB
 rw [decide_eq_true h3,decide_eq_true h4,decide_eq_true (by omega),List.all_eq_true.2 fun x hx=>decide_eq_true (h2 x hx)];rfl
theorem set_word {r:List Int} {i:Nat} {v:Int} (h2: ∀x∈r,0≤x∧x≤65535) (hv:0≤v∧v≤65535): ∀x∈r.set i v,0≤x∧x≤65535:=fun x hx=>by
 rcases List.mem_or_eq_of_mem_set hx with hx|rfl
 ·exact h2 x hx
 ·exact hv
theorem workV_ok (r:List Int) (pc st o i a b n got:Int) (h:hartB r pc st=true):hartB (workV r pc st o i a b n got).1 (workV r pc st o i a b n got).2.1 (workV r pc st o i a b n got).2.2.1=true∧(workV r pc st o i a b n got).2.2.2≤65535:=by
 obtain ⟨p1,p2,p3,p4⟩:=hartB_parts h
 have wa:=rd_word p2 a
 have wb:=rd_word p2 b
 unfold workV
 by_cases c:hartB r pc st=true∧st=0∧(0≤got∧got≤65535)
 ·rw [if_pos c]
  by_cases hi:insOkB o i a b n=true
  ·have q:=insOkB_bounds hi
   have hst:=c.2.1
   have hg:=c.2.2
   have s1: ∀v:Int,0≤v∧v≤65535→hartB (r.set i.toNat v) ((pc+1) % 24) st=true:=fun v hv=>hartB_mk (by rw [List.length_set];exact p1) (set_word p2 hv) (by omega) p4
   rw [if_pos hi]
   unfold opV
   split
   ·exact ⟨s1 _ (by omega),by dsimp only;omega⟩
   split
   ·exact ⟨s1 _ (by omega),by dsimp only;omega⟩
   split
   ·exact ⟨s1 _ (by omega),by dsimp only;omega⟩
   split
   ·exact ⟨s1 _ (by omega),by dsimp only;omega⟩
   split
   ·exact ⟨s1 _ hg,by dsimp only;omega⟩
   split
   ·exact ⟨hartB_mk p1 p2 (by dsimp only;omega) p4,wb.2⟩
   split
   ·exact ⟨s1 _ hg,by dsimp only;omega⟩
   split
   ·split
    ·exact ⟨hartB_mk p1 p2 (by dsimp only;omega) p4,by dsimp only;omega⟩
    ·exact ⟨hartB_mk p1 p2 (by dsimp only;omega) p4,by dsimp only;omega⟩
   split
   ·exact ⟨hartB_mk p1 p2 (by dsimp only;omega) p4,by dsimp only;omega⟩
   split
   ·exact ⟨hartB_mk p1 p2 p3 (by dsimp only;omega),by dsimp only;omega⟩
   ·exact ⟨hartB_mk p1 p2 (by dsimp only;omega) p4,by dsimp only;omega⟩
  ·rw [if_neg hi];exact ⟨hartB_mk p1 p2 p3 (by dsimp only;omega),by dsimp only;omega⟩
 ·rw [if_neg c];exact ⟨h,by dsimp only;omega⟩
theorem wordsB_set {m:List Int} {i:Nat} {v:Int} (h:wordsB m 24=true) (hv:0≤v∧v≤65535):wordsB (m.set i v) 24=true:=by
 have l:=wordsB_24 h
 unfold wordsB
 rw [List.length_set,decide_eq_true (by omega),List.all_eq_true.2 fun x hx=>decide_eq_true (set_word (fun x hx=>wordsB_mem h x hx) hv x hx)];rfl
theorem stepV_ok (m:List Int) (h:Hh) (hm:wordsB m 24=true) (hh:hB h=true):wordsB (stepV m h).1 24=true∧hB (stepV m h).2=true:=by
 have w:=workV_ok h.f0 h.f1 h.f2 (decodeV (rd m h.f1)).1 (decodeV (rd m h.f1)).2.1 (decodeV (rd m h.f1)).2.2.1 (decodeV (rd m h.f1)).2.2.2.1 (decodeV (rd m h.f1)).2.2.2.2.1 (gotV m h) hh
 have e:wkV m h=workV h.f0 h.f1 h.f2 (decodeV (rd m h.f1)).1 (decodeV (rd m h.f1)).2.1 (decodeV (rd m h.f1)).2.2.1 (decodeV (rd m h.f1)).2.2.2.1 (decodeV (rd m h.f1)).2.2.2.2.1 (gotV m h):=rfl
 rw [←e] at w
 unfold stepV
 refine ⟨?_,w.1⟩
 dsimp only
 split
 ·rename_i c;exact wordsB_set hm ⟨c,w.2⟩
 ·exact hm
theorem nextV_words (s:List Int×List Hh) (i:Int) (hm:wordsB s.1 24=true):wordsB (nextV s i).1 24=true:=by
 unfold nextV
 split
 ·rename_i c
  have g:=c.2.2
  unfold goB at g
  rw [Bool.and_eq_true] at g
  exact (stepV_ok _ _ hm g.1).1
 ·exact hm
theorem sAddr_eq (x:Int):spec_l9Address.f x=some (x % 24):=by
 unfold spec_l9Address.f
 have hb:=tmod_bd x 24 (by omega)
 have hu:=tmod_up x 24 (by omega) (by omega)
 generalize x.tmod 24=t at hb hu ⊢
 rw [←hu]
 by_cases c:t<0
 ·rw [if_pos c,wrap_small (by omega) (by omega),tmod_pos _ _ (by omega),Int.emod_eq_of_lt (by omega) (by omega)]
 ·rw [if_neg c,tmod_pos _ _ (by omega),Int.add_emod_right,Int.emod_eq_of_lt (by omega) (by omega)]
theorem and_word (x:Int):Go.bits .and .i64 x 65535=x % 65536:=by
 have e:Go.bits .and .i64 x 65535=IntKind.i64.wrap (((BitVec.ofInt 64 x&&& BitVec.ofInt 64 (65535:Int)).toNat:Nat):Int):=rfl
 have h:(BitVec.ofInt 64 x&&& BitVec.ofInt 64 (65535:Int)).toNat=(x % 65536).toNat:=by
  rw [BitVec.toNat_and,show (BitVec.ofInt 64 (65535:Int)).toNat=2 ^ 16-1 by decide,Nat.and_two_pow_sub_one_eq_mod,BitVec.toNat_ofInt]
  omega
 rw [e,h,wraps_i64 _ (by omega) (by omega)]
 omega
theorem sWord_eq (x:Int):spec_l9Word.f x=some (x % 65536):=by
 unfold spec_l9Word.f
 rw [and_word]
theorem specDecode_eq (w:Int):spec_Decode.f w=some (decodeV w):=by
 unfold spec_Decode.f decodeV decodeB
 rw [l1In_eq,Option.bind_some]
 by_cases h:0≤w∧w≤65535
 ·have e1:Int.tmod w 16=w % 16:=tmod_pos _ _ h.1
  have e2:Int.tmod (wrap64 (Int.tdiv w 16)) 4=w / 16 % 4:=by rw [tdiv_pos _ _ h.1,wrap_small (by omega) (by omega),tmod_pos _ _ (by omega)]
  have e3:Int.tmod (wrap64 (Int.tdiv w 64)) 4=w / 64 % 4:=by rw [tdiv_pos _ _ h.1,wrap_small (by omega) (by omega),tmod_pos _ _ (by omega)]
  have e4:Int.tmod (wrap64 (Int.tdiv w 256)) 4=w / 256 % 4:=by rw [tdiv_pos _ _ h.1,wrap_small (by omega) (by omega),tmod_pos _ _ (by omega)]
  have e5:wrap64 (Int.tdiv w 1024)=w / 1024:=by rw [tdiv_pos _ _ h.1,wrap_small (by omega) (by omega)]
  rw [decide_eq_true h,if_pos rfl,e1,e2,e3,e4,e5,specInsOk_eq,Option.bind_some,Bool.true_and]
  split<;>rfl
 ·rw [decide_eq_false h,if_neg (by simp),Bool.false_and,if_neg (by simp)]
theorem specTarget_eq (o i a b n:Int) (r:List Int):spec_Target.f o i a b n r=some (targetV o i a b n r):=by
 unfold spec_Target.f targetV
 rw [specInsOk_eq,Option.bind_some]
 by_cases h:insOkB o i a b n=true
 ·have hb:=insOkB_bounds h
  rw [if_pos h]
  by_cases hl:r.length=4
  ·rw [if_pos (by omega)]
   by_cases c4:o=4
   ·rw [if_pos c4,if_pos (by omega),if_pos (by omega),sAddr_eq,Option.bind_some,if_pos ⟨h,.inl c4,hl⟩]
   rw [if_neg c4]
   by_cases c5:o=5
   ·rw [if_pos c5,if_pos (by omega),if_pos (by omega),sAddr_eq,Option.bind_some,if_pos ⟨h,.inr (.inl c5),hl⟩]
   rw [if_neg c5]
   by_cases c6:o=6
   ·rw [if_pos c6,if_pos (by omega),if_pos (by omega),sAddr_eq,Option.bind_some,if_pos ⟨h,.inr (.inr c6),hl⟩]
   ·rw [if_neg c6,if_neg (fun x=>by rcases x.2.1 with q|q|q<;>first|exact c4 q|exact c5 q|exact c6 q)]
  ·rw [if_neg (by omega),if_neg (fun x=>hl x.2.2)]
 ·rw [if_neg h,if_neg (fun x=>h x.1)]
theorem specWork_j1 (k:Nat) (r:List Int) (pc st o i a b n got:Int) (hr:r.length=4) (hw: ∀x,x∈r→0≤x∧x≤65535) (hg:0≤got∧got≤65535) (hi:0≤i∧i≤3) (hn:0≤n∧n≤63):
  spec_Work.j1 (k+2) got (-1) (rd r a) (rd r b) o r pc st o i a b n r ((pc+1) % 24) st=some (opV r pc st o i a b n got):=by
 have wa:=rd_word hw a
 have wb:=rd_word hw b
 rw [spec_Work.j1]
 unfold opV
 rw [wrap_small (x:=rd r a+rd r b) (by omega) (by omega),wrap_small (x:=rd r a-rd r b) (by omega) (by omega),wrap_small (x:=rd r a+n) (by omega) (by omega),wrap_small (x:=got+rd r b) (by omega) (by omega)]
 simp only [sWord_eq,sAddr_eq,Option.bind_some]
 have h1:i<(r.length:Int):=by omega
 simp only [if_pos hi.1,if_pos h1]
 by_cases c1:o=1
 ·rw [if_pos c1,if_pos c1]
  all_goals (try rw [spec_Work.j2])
 rw [if_neg c1,if_neg c1]
 by_cases c2:o=2
 ·rw [if_pos c2,if_pos c2]
  all_goals (try rw [spec_Work.j2])
 rw [if_neg c2,if_neg c2]
 by_cases c3:o=10
 ·rw [if_pos c3,if_pos c3]
  all_goals (try rw [spec_Work.j2])
 rw [if_neg c3,if_neg c3]
 by_cases c4:o=3
 ·rw [if_pos c4,if_pos c4]
  all_goals (try rw [spec_Work.j2])
 rw [if_neg c4,if_neg c4]
 by_cases c5:o=4
 ·rw [if_pos c5,if_pos c5]
  all_goals (try rw [spec_Work.j2])
 rw [if_neg c5,if_neg c5]
 by_cases c6:o=5
 ·rw [if_pos c6,if_pos c6]
  all_goals (try rw [spec_Work.j2])
 rw [if_neg c6,if_neg c6]
 by_cases c7:o=6
 ·rw [if_pos c7,if_pos c7]
  all_goals (try rw [spec_Work.j2])
 rw [if_neg c7,if_neg c7]
 by_cases c8:o=7
 ·rw [if_pos c8,if_pos c8]
  by_cases c:rd r a=0
  ·rw [if_pos c,if_pos c]
   all_goals (try rw [spec_Work.j2])
  ·rw [if_neg c,if_neg c]
   all_goals (try rw [spec_Work.j2])
 rw [if_neg c8,if_neg c8]
 by_cases c9:o=8
 ·rw [if_pos c9,if_pos c9]
  all_goals (try rw [spec_Work.j2])
 rw [if_neg c9,if_neg c9]
 by_cases c10:o=9
 ·rw [if_pos c10,if_pos c10]
  all_goals (try rw [spec_Work.j2])
 rw [if_neg c10,if_neg c10]
 all_goals (try rw [spec_Work.j2])
theorem specWork_eq (r:List Int) (pc st o i a b n got:Int) (hl:r.length≤2097152) (k:Nat) (hk:r.length+10<k):spec_Work.f k r pc st o i a b n got=some (workV r pc st o i a b n got):=by
 obtain ⟨k,rfl⟩: ∃m,k=m+4:=⟨k-4,by omega⟩
 unfold spec_Work.f spec_l9Copy.f workV
 rw [Option.bind_some,if_pos (by simp;omega),Option.bind_some,List.nil_append]
 simp only [specHartOk_eq r pc st (by omega) (k+4) (by omega),Option.bind_some]
 have jt:spec_Work.j0 (k+4) got true r pc st o i a b n r pc st=some (r,pc,st,-1):=by rw [spec_Work.j0,if_pos rfl]
 by_cases h:hartB r pc st=true
 ·obtain ⟨p1,p2,p3,p4⟩:=hartB_parts h
  rw [if_pos h]
  by_cases hs:st=0
  ·rw [if_pos hs,l1In_eq,Option.bind_some]
   by_cases hg:0≤got∧got≤65535
   ·rw [if_pos ⟨h,hs,hg⟩,decide_eq_true hg,Bool.not_true,spec_Work.j0,if_neg (by simp),wrap_small (x:=pc+1) (by omega) (by omega),sAddr_eq,Option.bind_some,specInsOk_eq,Option.bind_some]
    by_cases hi:insOkB o i a b n=true
    ·obtain ⟨b0,b0',b1,b1',b2,b2',b3,b3',b4,b4'⟩:=insOkB_bounds hi
     rw [if_pos hi,if_pos hi,if_pos b2,if_pos (by omega),if_pos b3,if_pos (by omega)]
     exact specWork_j1 (k+1) r pc st o i a b n got p1 p2 hg ⟨b1,b1'⟩ ⟨b4,b4'⟩
    ·rw [if_neg hi,if_neg hi]
   ·rw [if_neg (fun c=>hg c.2.2),decide_eq_false hg,Bool.not_false,jt]
  ·rw [if_neg hs,jt,if_neg (fun c=>hs c.2.1)]
 ·rw [if_neg h,jt,if_neg (fun c=>h c.1)]
theorem specFlatStep_eq (m:List Int) (h:Hh) (hm:m.length≤2097152) (hl:h.f0.length≤2097152) (k:Nat) (hk:2097200<k):spec_FlatStep.f k m h.f0 h.f1 h.f2=some ((flatV m h).1,(flatV m h).2.f0,(flatV m h).2.f1,(flatV m h).2.f2):=by
 obtain ⟨k,rfl⟩: ∃j,k=j+1:=⟨k-1,by omega⟩
 unfold spec_FlatStep.f flatV
 rw [Option.bind_some,if_pos (by simp;omega),Option.bind_some,List.nil_append,l1Words_eq m 24 hm (k+1) (by omega),Option.bind_some]
 have jt:spec_FlatStep.j0 (k+1) m m true h.f0 h.f1 h.f2=some (m,h.f0,h.f1,h.f2):=by
  rw [spec_FlatStep.j0,if_pos rfl]
  unfold spec_l9Copy.f
  rw [Option.bind_some,if_pos (by simp;omega),Option.bind_some,List.nil_append]
 by_cases w:wordsB m 24=true
 ·have l24:=wordsB_24 w
  rw [if_pos w,specHartOk_eq _ _ _ hl (k+1) (by omega),Option.bind_some]
  by_cases hh:hartB h.f0 h.f1 h.f2=true
  ·obtain ⟨p1,p2,p3,p4⟩:=hartB_parts hh
   rw [if_pos hh]
   by_cases hs:h.f2=0
   ·have g:goB h=true:=by unfold goB hB;rw [hh,hs];rfl
    rw [if_pos ⟨w,g⟩,show (h.f2 != 0)=false by rw [hs];rfl,spec_FlatStep.j0,if_neg (by simp),if_pos p3.1,if_pos (by omega),specDecode_eq,Option.bind_some,specTarget_eq,Option.bind_some]
    unfold stepV
    rcases tgt_range (decodeV (rd m h.f1)).1 (decodeV (rd m h.f1)).2.1 (decodeV (rd m h.f1)).2.2.1 (decodeV (rd m h.f1)).2.2.2.1 (decodeV (rd m h.f1)).2.2.2.2.1 h.f0 with t|t
    ·have e:gotV m h=0:=by unfold gotV;rw [if_neg (by omega)]
     rw [if_neg (by omega),specWork_eq _ _ _ _ _ _ _ _ _ (by omega) k (by omega),Option.bind_some]
     unfold wkV;rw [e]
     by_cases c:0≤(workV h.f0 h.f1 h.f2 (decodeV (rd m h.f1)).1 (decodeV (rd m h.f1)).2.1 (decodeV (rd m h.f1)).2.2.1 (decodeV (rd m h.f1)).2.2.2.1 (decodeV (rd m h.f1)).2.2.2.2.1 0).2.2.2
     ·have:=put_tgt c;omega
     ·rw [if_neg c,if_neg c]
    ·have e:gotV m h=rd m (tgtV m h):=by unfold gotV tgtV;rw [if_pos t.1]
     rw [if_pos t.1,if_pos t.1,if_pos (by omega),specWork_eq _ _ _ _ _ _ _ _ _ (by omega) k (by omega),Option.bind_some]
     unfold wkV;rw [e];unfold tgtV
     by_cases c:0≤(workV h.f0 h.f1 h.f2 (decodeV (rd m h.f1)).1 (decodeV (rd m h.f1)).2.1 (decodeV (rd m h.f1)).2.2.1 (decodeV (rd m h.f1)).2.2.2.1 (decodeV (rd m h.f1)).2.2.2.2.1 (rd m (targetV (decodeV (rd m h.f1)).1 (decodeV (rd m h.f1)).2.1 (decodeV (rd m h.f1)).2.2.1 (decodeV (rd m h.f1)).2.2.2.1 (decodeV (rd m h.f1)).2.2.2.2.1 h.f0))).2.2.2
     ·rw [if_pos c,if_pos c,if_pos (by omega)]
     ·rw [if_neg c,if_neg c]
   ·have g: ¬goB h=true:=fun q=>by unfold goB at q;rw [Bool.and_eq_true] at q;exact hs (by simpa using q.2)
    rw [show (h.f2 != 0)=true by simpa using hs,jt,if_neg (fun q=>g q.2)]
  ·have g: ¬goB h=true:=fun q=>by unfold goB hB at q;rw [Bool.and_eq_true] at q;exact hh q.1
   rw [if_neg hh,jt,if_neg (fun q=>g q.2)]
 ·rw [if_neg w,jt,if_neg (fun q=>w q.1)]
structure Ev where
 f0:Int
 f1:Int
 f2:Int
 f3:Int
 f4:Int
def eventV (m:List Int) (h:Hh) (who:Int):Ev:=if tgtV m h<0 then ⟨who,h.f1,tgtV m h,-1,-1⟩ else ⟨who,h.f1,tgtV m h,if (decodeV (rd m h.f1)).1=5 then-1 else rd m (tgtV m h),(wkV m h).2.2.2⟩
theorem specEventOf_eq (m:List Int) (h:Hh) (who:Int) (hm:m.length≤2097152) (hl:h.f0.length≤2097152) (k:Nat) (hk:2097200<k):spec_EventOf.f k m h.f0 h.f1 h.f2 who=some (if wordsB m 24=true∧goB h=true then ((eventV m h who).f0,(eventV m h who).f1,(eventV m h who).f2,(eventV m h who).f3,(eventV m h who).f4,true) else (0,0,0,0,0,false)):=by
 obtain ⟨k,rfl⟩: ∃j,k=j+1:=⟨k-1,by omega⟩
 unfold spec_EventOf.f
 rw [l1Words_eq m 24 hm (k+1) (by omega),Option.bind_some]
 have jt:spec_EventOf.j0 (k+1) m who true h.f0 h.f1 h.f2=some (0,0,0,0,0,false):=by rw [spec_EventOf.j0,if_pos rfl]
 by_cases w:wordsB m 24=true
 ·have l24:=wordsB_24 w
  rw [if_pos w,specHartOk_eq _ _ _ hl (k+1) (by omega),Option.bind_some]
  by_cases hh:hartB h.f0 h.f1 h.f2=true
  ·obtain ⟨p1,p2,p3,p4⟩:=hartB_parts hh
   rw [if_pos hh]
   by_cases hs:h.f2=0
   ·have g:goB h=true:=by unfold goB hB;rw [hh,hs];rfl
    rw [if_pos ⟨w,g⟩,show (h.f2 != 0)=false by rw [hs];rfl,spec_EventOf.j0,if_neg (by simp),if_pos p3.1,if_pos (by omega),specDecode_eq,Option.bind_some,specTarget_eq,Option.bind_some]
    unfold eventV
    have eT:targetV (decodeV (rd m h.f1)).1 (decodeV (rd m h.f1)).2.1 (decodeV (rd m h.f1)).2.2.1 (decodeV (rd m h.f1)).2.2.2.1 (decodeV (rd m h.f1)).2.2.2.2.1 h.f0=tgtV m h:=rfl
    rw [eT]
    have t:tgtV m h= -1∨0≤tgtV m h∧tgtV m h≤23:=tgt_range _ _ _ _ _ _
    rcases t with t|t
    ·have ht:tgtV m h<0:=by omega
     simp only [if_pos ht]
    ·have e:gotV m h=rd m (tgtV m h):=by
      show (if 0≤tgtV m h then rd m (tgtV m h) else 0)=_
      rw [if_pos t.1]
     have ew:workV h.f0 h.f1 h.f2 (decodeV (rd m h.f1)).1 (decodeV (rd m h.f1)).2.1 (decodeV (rd m h.f1)).2.2.1 (decodeV (rd m h.f1)).2.2.2.1 (decodeV (rd m h.f1)).2.2.2.2.1 (rd m (tgtV m h))=wkV m h:=by unfold wkV;rw [e]
     have ht: ¬tgtV m h<0:=by omega
     have h0:tgtV m h<(m.length:Int):=by omega
     simp only [if_neg ht,if_pos t.1,if_pos h0]
     rw [specWork_eq _ _ _ _ _ _ _ _ _ (by omega) k (by omega),Option.bind_some,ew]
     by_cases c5:(decodeV (rd m h.f1)).1=5
     ·simp only [if_pos c5]
     ·simp only [if_neg c5]
   ·have g: ¬goB h=true:=fun q=>by unfold goB at q;rw [Bool.and_eq_true] at q;exact hs (by simpa using q.2)
    rw [show (h.f2 != 0)=true by simpa using hs,jt,if_neg (fun q=>g q.2)]
  ·have g: ¬goB h=true:=fun q=>by unfold goB hB at q;rw [Bool.and_eq_true] at q;exact hh q.1
   rw [if_neg hh,jt,if_neg (fun q=>g q.2)]
 ·rw [if_neg w,jt,if_neg (fun q=>w q.1)]
def marksH:List S53→Int→List S53×Int
 |[],s=>([],s)
 |h :: t,s=>(⟨iota s h.f0.length,s+h.f0.length,s+h.f0.length+1⟩ :: (marksH t (s+h.f0.length+2)).1,(marksH t (s+h.f0.length+2)).2)
theorem marksH_le: ∀(l:List S53) (s:Int),s≤(marksH l s).2
 |[],s=>Int.le_refl _
 |h :: t,s=>by have:=marksH_le t (s+h.f0.length+2);simp only [marksH];omega
theorem marksH_bd (M:Nat): ∀(l:List S53) (s:Int),(∀h∈l,h.f0.length≤M)→(marksH l s).2≤s+(l.length:Int)*((M:Int)+2)
 |[],s,_=>by simp [marksH]
 |h :: t,s,hx=>by
  have h1:=marksH_bd M t (s+h.f0.length+2) (fun y hy=>hx y (List.mem_cons_of_mem _ hy))
  have h2:=hx h (List.mem_cons_self ..)
  simp only [marksH,List.length_cons]
  have e:((t.length+1:Nat):Int)*((M:Int)+2)=(t.length:Int)*((M:Int)+2)+((M:Int)+2):=by rw [Int.natCast_add,Int.add_mul];omega
  rw [e];omega
theorem markHartS_l: ∀(t p:List S53) (s:Int) (k:Nat),0≤s→(marksH t s).2≤1152921504606846976→(∀h∈t,h.f0.length≤2097152)→p.length+t.length≤2097152→t.length+2097160<k→
  laws_markHartS.l0 k (p++t) s (p.length:Int)=some ((marksH t s).2,p++(marksH t s).1)
 |[],p,s,k,h0,hb,hx,hl,hk=>by
  obtain ⟨k,rfl⟩: ∃m,k=m+1:=⟨k-1,by omega⟩
  rw [laws_markHartS.l0,if_neg (by simp)];rfl
 |h :: t,p,s,k,h0,hb,hx,hl,hk=>by
  obtain ⟨k,rfl⟩: ∃m,k=m+1:=⟨k-1,by omega⟩
  simp only [List.length_cons] at hl hk
  have hh:=hx h (List.mem_cons_self ..)
  have hm:=marksH_le t (s+h.f0.length+2)
  simp only [marksH] at hb
  have e1:rd_T53 (p++h :: t) (p.length:Int)=h:=by rw [rdHart _ _ (by simp)];simp
  rw [laws_markHartS.l0,if_pos (by simp;omega),if_pos (by omega),e1,markIntS_eq h.f0 s h0 (by omega) (by omega) k (by omega),Option.bind_some]
  dsimp only
  rw [wrap_small (x:=s+(h.f0.length:Int)+1) (by omega) (by omega),wrap_small (x:=s+(h.f0.length:Int)+1+1) (by omega) (by omega),wrap_succ (by omega),Int.toNat_natCast,List.set_append_right _ _ (Nat.le_refl _),Nat.sub_self,List.set_cons_zero]
  have:=markHartS_l t (p++[⟨iota s h.f0.length,s+h.f0.length,s+h.f0.length+1⟩]) (s+h.f0.length+2) k (by omega) hb (fun y hy=>hx y (List.mem_cons_of_mem _ hy)) (by simp;omega) (by omega)
  simp only [List.append_assoc,List.singleton_append,List.length_append,List.length_singleton] at this
  rw [show s+(h.f0.length:Int)+1+1=s+h.f0.length+2 by omega,this];rfl
theorem markHartS_eq (t:List S53) (s:Int) (h0:0≤s) (hb:(marksH t s).2≤1152921504606846976) (hx: ∀h∈t,h.f0.length≤2097152) (hl:t.length≤2097152) (k:Nat) (hk:4200000<k):laws_markHartS.f k t s=some ((marksH t s).2,(marksH t s).1):=by
 unfold laws_markHartS.f
 have:=markHartS_l t [] s k h0 hb hx (by simp;omega) (by omega)
 simpa using this
theorem heldHartS_l: ∀(t p:List S53) (s:Int) (k:Nat),0≤s→(marksH t s).2≤1152921504606846976→(∀h∈t,h.f0.length≤2097152)→p.length+t.length≤2097152→t.length+2097160<k→
  laws_heldHartS.l0 k (p++(marksH t s).1) s (p.length:Int)=some (marksH t s).2
 |[],p,s,k,h0,hb,hx,hl,hk=>by
  obtain ⟨k,rfl⟩: ∃m,k=m+1:=⟨k-1,by omega⟩
  rw [laws_heldHartS.l0,if_neg (by simp [marksH])];rfl
 |h :: t,p,s,k,h0,hb,hx,hl,hk=>by
  obtain ⟨k,rfl⟩: ∃m,k=m+1:=⟨k-1,by omega⟩
  simp only [List.length_cons] at hl hk
  have hh:=hx h (List.mem_cons_self ..)
  have hm:=marksH_le t (s+h.f0.length+2)
  simp only [marksH] at hb ⊢
  have e1: ∀(a:S53) (q:List S53),rd_T53 (p++a :: q) (p.length:Int)=a:=fun a q=>by rw [rdHart _ _ (by simp)];simp
  rw [laws_heldHartS.l0,if_pos (by simp;omega),if_pos (by omega),e1]
  dsimp only
  rw [heldIntS_eq s h.f0.length h0 (by omega) (by omega) k (by omega),Option.bind_some,if_neg (by omega),if_pos rfl,wrap_small (x:=s+(h.f0.length:Int)+1) (by omega) (by omega),if_pos rfl,wrap_small (x:=s+(h.f0.length:Int)+1+1) (by omega) (by omega),wrap_succ (by omega)]
  have:=heldHartS_l t (p++[⟨iota s h.f0.length,s+h.f0.length,s+h.f0.length+1⟩]) (s+h.f0.length+2) k (by omega) hb (fun y hy=>hx y (List.mem_cons_of_mem _ hy)) (by simp;omega) (by omega)
  simp only [List.append_assoc,List.singleton_append,List.length_append,List.length_singleton] at this
  rw [show s+(h.f0.length:Int)+1+1=s+h.f0.length+2 by omega,this]
theorem heldHartS_eq (t:List S53) (s:Int) (h0:0≤s) (hb:(marksH t s).2≤1152921504606846976) (hx: ∀h∈t,h.f0.length≤2097152) (hl:t.length≤2097152) (k:Nat) (hk:4200000<k):laws_heldHartS.f k (marksH t s).1 s=some (marksH t s).2:=by
 unfold laws_heldHartS.f
 have:=heldHartS_l t [] s k h0 hb hx (by simp;omega) (by omega)
 simpa using this
theorem contains_eq (l:List Int) (a:Int) (hl:l.length≤4194304) (k:Nat) (hk:l.length<k):slices_Contains_int_int.f k l a=some (decide (a∈l)):=by
 unfold slices_Contains_int_int.f slices_Index_int_int.f
 obtain ⟨v,h1,h2⟩:=idx_any (n:=l.length) (fun k i=>slices_Index_int_int.l0 k l a (l.length:Int) (i:Int)) (fun i=>decide (a=rd l (i:Int))) (fun k i hi hq=>by
  have hq:=of_decide_eq_false hq
  simp only [slices_Index_int_int.l0]
  rw [if_pos (by omega),if_pos (by omega),if_pos (by omega),if_neg hq,wrap_succ (by omega)]) (fun k i hi hq=>by
  have hq:=of_decide_eq_true hq
  simp only [slices_Index_int_int.l0]
  rw [if_pos (by omega),if_pos (by omega),if_pos (by omega),if_pos hq]) (fun k=>by
  simp only [slices_Index_int_int.l0]
  rw [if_neg (by omega)]) (decide (a∈l)) (by
  rw [decide_eq_true_iff,List.mem_iff_getElem]
  refine ⟨fun ⟨j,hj,e⟩=>⟨j,hj,?_⟩,fun ⟨j,hj,e⟩=>⟨j,hj,?_⟩⟩
  ·rw [decide_eq_true_iff,rd_nat l j hj,e]
  ·rw [decide_eq_true_iff,rd_nat l j hj] at e;exact e.symm) k hk
 have h1':slices_Index_int_int.l0 k l a (l.length:Int) 0=some v:=h1
 rw [h1',Option.bind_some,h2]
theorem implEventOf_eq (m:List Int) (h:Hh) (who:Int) (hm:m.length=24) (hh:hB h=true) (k:Nat) (hk:20<k):impl_eventOf.f k m h.f0 h.f1 h.f2 who=some ((eventV m h who).f0,(eventV m h who).f1,(eventV m h who).f2,(eventV m h who).f3,(eventV m h who).f4):=by
 obtain ⟨p1,p2,p3,p4⟩:=hartB_parts hh
 unfold impl_eventOf.f eventV
 rw [if_pos p3.1,if_pos (by omega),implDecode_eq,Option.bind_some,implTarget_eq,Option.bind_some]
 have eT:targetV (decodeV (rd m h.f1)).1 (decodeV (rd m h.f1)).2.1 (decodeV (rd m h.f1)).2.2.1 (decodeV (rd m h.f1)).2.2.2.1 (decodeV (rd m h.f1)).2.2.2.2.1 h.f0=tgtV m h:=rfl
 rw [eT]
 have t:tgtV m h= -1∨0≤tgtV m h∧tgtV m h≤23:=tgt_range _ _ _ _ _ _
 rcases t with t|t
 ·have ht:tgtV m h<0:=by omega
  simp only [if_pos ht]
 ·have e:gotV m h=rd m (tgtV m h):=by
   show (if 0≤tgtV m h then rd m (tgtV m h) else 0)=_
   rw [if_pos t.1]
  have ew:workV h.f0 h.f1 h.f2 (decodeV (rd m h.f1)).1 (decodeV (rd m h.f1)).2.1 (decodeV (rd m h.f1)).2.2.1 (decodeV (rd m h.f1)).2.2.2.1 (decodeV (rd m h.f1)).2.2.2.2.1 (rd m (tgtV m h))=wkV m h:=by unfold wkV;rw [e]
  have ht: ¬tgtV m h<0:=by omega
  have h0:tgtV m h<(m.length:Int):=by omega
  simp only [if_neg ht,if_pos t.1,if_pos h0]
  rw [implWork_eq _ _ _ _ _ _ _ _ _ (by omega) k (by omega),Option.bind_some,ew]
  by_cases c5:(decodeV (rd m h.f1)).1=5
  ·simp only [if_pos c5]
  ·simp only [if_neg c5]
def watchV (st ce:List Int):List Int×List Hh→List Int→Nat→(List Int×List Hh)×Int×Int
 |s,[],u=>(s,(u:Int),0)
 |s,i :: o,u=>if mayGo s.2 i then (if 0<u∧(rd_T53 s.2 i).f1∈st then (s,(u:Int),1) else if (eventV s.1 (rd_T53 s.2 i) i).f4≥0∧(eventV s.1 (rd_T53 s.2 i) i).f2∈ce then (nextV s i,((u+1:Nat):Int),2) else watchV st ce (nextV s i) o (u+1)) else watchV st ce s o (u+1)
def runTo4 (r:(List Int×List Hh)×Int×Int):List Int×List Hh×Int×Int:=(r.1.1,r.1.2,r.2.1,r.2.2)
def runToV (m:List Int) (hs:List Hh) (o st ce:List Int):(List Int×List Hh)×Int×Int:=if o.length≤2000∧watchB st ce=true then (if wordsB m 24=true then watchV st ce (m,hs) o 0 else ((m,hs),(o.length:Int),0)) else ((m,hs),0,0)
theorem implRunTo_l0 (o st ce:List Int) (ho:o.length≤2000) (hst:st.length≤1000) (hce:ce.length≤1000): ∀(d i:Nat) (s:List Int×List Hh) (k:Nat),i+d=o.length→wordsB s.1 24=true→s.2.length≤2097152→shortH s.2→4*d+2200000<k→
  impl_RunTo.l0 k s.1 s.2 o true o (o.length:Int) (i:Int) st ce=some (runTo4 (watchV st ce s (o.drop i) i)):=by
 intro d
 induction d with
 |zero=>
  intro i s k hi hw hn hb hk
  obtain ⟨k,rfl⟩: ∃q,k=q+1:=⟨k-1,by omega⟩
  have e:i=o.length:=by omega
  subst e
  rw [impl_RunTo.l0,if_neg (by omega),List.drop_eq_nil_of_le (Nat.le_refl _)];rfl
 |succ d ih=>
  intro i s k hi hw hn hb hk
  obtain ⟨k,rfl⟩: ∃q,k=q+4:=⟨k-4,by omega⟩
  have hio:i<o.length:=by omega
  have l24:=wordsB_24 hw
  rw [List.drop_eq_getElem_cons hio,watchV]
  rw [impl_RunTo.l0,if_pos (by omega),if_pos (by omega),if_pos (by omega),if_pos rfl,rd_nat o i hio,from_eq,Option.bind_some,wrap_small (by omega) (by omega)]
  have next:impl_RunTo.l0 (k+2) s.1 s.2 o true o (o.length:Int) ((i+1:Nat):Int) st ce=some (runTo4 (watchV st ce s (o.drop (i+1)) (i+1))):=ih (i+1) s (k+2) (by omega) hw hn hb (by omega)
  have hw2:=nextV_words s o[i] hw
  have hn2:=(nextV_len s o[i]).2
  have hb2:=nextV_short s o[i] hb
  have next2:impl_RunTo.l0 k (nextV s o[i]).1 (nextV s o[i]).2 o true o (o.length:Int) ((i+1:Nat):Int) st ce=some (runTo4 (watchV st ce (nextV s o[i]) (o.drop (i+1)) (i+1))):=ih (i+1) (nextV s o[i]) k (by omega) hw2 (by omega) hb2 (by omega)
  by_cases c:0≤o[i]∧o[i]≤(s.2.length:Int)-1
  ·have hsi:=hb _ (rdH_mem _ _ c.1 (by omega:o[i]<(s.2.length:Int)))
   rw [if_pos (decide_eq_true c),if_pos c.1,if_pos (by omega),implGoes_eq _ hsi _ (by omega),Option.bind_some]
   by_cases g:goB (rd_T53 s.2 o[i])=true
   ·have g2:hB (rd_T53 s.2 o[i])=true:=by unfold goB at g;rw [Bool.and_eq_true] at g;exact g.1
    have mg:mayGo s.2 o[i]:=⟨c.1,by omega,g⟩
    have hj3:impl_RunTo.j3 (k+2) s.1 s.2 o true (i:Int) o[i] o (o.length:Int) (i:Int) false st ce=some (runTo4 (if (eventV s.1 (rd_T53 s.2 o[i]) o[i]).f4≥0∧(eventV s.1 (rd_T53 s.2 o[i]) o[i]).f2∈ce then (nextV s o[i],((i+1:Nat):Int),2) else watchV st ce (nextV s o[i]) (o.drop (i+1)) (i+1))):=by
     have en:nextV s o[i]=((stepV s.1 (rd_T53 s.2 o[i])).1,s.2.set (o[i]).toNat (stepV s.1 (rd_T53 s.2 o[i])).2):=by unfold nextV;rw [if_pos mg]
     rw [impl_RunTo.j3,if_neg (by simp),if_pos c.1,if_pos (by omega),implEventOf_eq _ _ _ l24 g2 _ (by omega),Option.bind_some,implStep_eq _ _ l24 g2 _ (by omega),Option.bind_some,Option.bind_some]
     dsimp only
     have en1:(stepV s.1 (rd_T53 s.2 o[i])).1=(nextV s o[i]).1:=by rw [en]
     have en2:s.2.set (o[i]).toNat (stepV s.1 (rd_T53 s.2 o[i])).2=(nextV s o[i]).2:=by rw [en]
     have en3:(⟨(stepV s.1 (rd_T53 s.2 o[i])).2.f0,(stepV s.1 (rd_T53 s.2 o[i])).2.f1,(stepV s.1 (rd_T53 s.2 o[i])).2.f2⟩:Hh)=(stepV s.1 (rd_T53 s.2 o[i])).2:=rfl
     rw [en3,en1,en2]
     by_cases p:(eventV s.1 (rd_T53 s.2 o[i]) o[i]).f4≥0
     ·rw [if_pos p,contains_eq ce _ (by omega) _ (by omega),Option.bind_some,impl_RunTo.j4]
      by_cases q:(eventV s.1 (rd_T53 s.2 o[i]) o[i]).f2∈ce
      ·rw [if_pos (decide_eq_true q),if_pos ⟨p,q⟩,wrap_succ (by omega)];rfl
      ·rw [if_neg (by simpa using q),if_neg (fun x=>q x.2),wrap_succ (by omega)];exact next2
     ·rw [if_neg p,if_neg (fun x=>p x.1),impl_RunTo.j4,if_neg (by simp),wrap_succ (by omega)];exact next2
    rw [g,Bool.not_true,impl_RunTo.j2,if_neg (by simp),if_pos mg]
    by_cases u:(i:Int)>0
    ·rw [if_pos u,if_pos c.1,if_pos (by omega),contains_eq st _ (by omega) _ (by omega),Option.bind_some]
     by_cases z:(rd_T53 s.2 o[i]).f1∈st
     ·rw [decide_eq_true z,impl_RunTo.j3,if_pos rfl,if_pos ⟨by omega,z⟩];rfl
     ·rw [decide_eq_false z,if_neg (fun x=>z x.2)];exact hj3
    ·rw [if_neg u,if_neg (fun x=>by have:=x.1;omega)];exact hj3
   ·have mg: ¬mayGo s.2 o[i]:=fun q=>g q.2.2
    rw [Bool.eq_false_iff.2 g,Bool.not_false,impl_RunTo.j2,if_pos rfl,if_neg mg,wrap_succ (by omega)];exact next
  ·rw [if_neg (by simpa using c),impl_RunTo.j2,if_pos rfl,if_neg (fun x=>c ⟨x.1,by have:=x.2.1;omega⟩),wrap_succ (by omega)];exact next
theorem implRunTo_no (m:List Int) (hs:List Hh) (o st ce:List Int) (ho:o.length≤2000): ∀(d i k:Nat),i+d=o.length→2*d+1<k→impl_RunTo.l0 k m hs o false o (o.length:Int) (i:Int) st ce=some (m,hs,(o.length:Int),0)
 |0,i,k,hi,hk=>by
  obtain ⟨k,rfl⟩: ∃q,k=q+1:=⟨k-1,by omega⟩
  rw [impl_RunTo.l0,if_neg (by omega)]
 |d+1,i,k,hi,hk=>by
  obtain ⟨k,rfl⟩: ∃q,k=q+2:=⟨k-2,by omega⟩
  rw [impl_RunTo.l0,if_pos (by omega),if_pos (by omega),if_pos (by omega),if_neg (by simp),impl_RunTo.j2,if_pos rfl,wrap_succ (by omega)]
  exact implRunTo_no m hs o st ce ho d (i+1) k (by omega) (by omega)
theorem watchB_len {st ce:List Int} (h:watchB st ce=true):st.length≤24∧ce.length≤24:=by
 unfold watchB at h
 simp only [Bool.and_eq_true,decide_eq_true_eq] at h
 exact ⟨h.1.1,h.2.1⟩
theorem implRunTo_eq (m:List Int) (hs:List Hh) (o st ce:List Int) (hm:m.length≤1048576) (hn:hs.length≤2097152) (hb:shortH hs) (hst:st.length≤1048576) (hce:ce.length≤1048576) (k:Nat) (hk:4300000<k):impl_RunTo.f k m hs o st ce=some (runTo4 (runToV m hs o st ce)):=by
 obtain ⟨k,rfl⟩: ∃q,k=q+1:=⟨k-1,by omega⟩
 have jt:impl_RunTo.j0 (k+1) m hs o true st ce=some (m,hs,0,0):=by rw [impl_RunTo.j0,if_pos rfl]
 unfold impl_RunTo.f slices_Clone_int_int.f runToV
 rw [if_pos (by omega),Option.bind_some,copyHarts_eq hs hn hb _ (by omega),Option.bind_some]
 by_cases ho:o.length≤2000
 ·rw [if_neg (by omega),implWatchOk_eq st ce hst hce _ (by omega),Option.bind_some]
  by_cases w:watchB st ce=true
  ·obtain ⟨w1,w2⟩:=watchB_len w
   rw [if_pos (show o.length≤2000∧watchB st ce=true from ⟨ho,w⟩),w,Bool.not_true,impl_RunTo.j0,if_neg (by simp),memOk_eq m (by omega) _ (by omega),Option.bind_some]
   cases hw:wordsB m 24 with
   |true=>rw [if_pos rfl];exact implRunTo_l0 o st ce ho (by omega) (by omega) o.length 0 (m,hs) k (by omega) hw hn hb (by omega)
   |false=>rw [if_neg (by simp)];exact implRunTo_no m hs o st ce ho o.length 0 k (by omega) (by omega)
  ·rw [if_neg (fun x=>w x.2),Bool.eq_false_iff.2 w,Bool.not_false,jt];rfl
 ·rw [if_pos (by omega),if_neg (fun x=>ho x.1),jt];rfl
theorem specFlat_l0 (hs:List Hh) (o m:List Int) (hn:hs.length≤2097152) (hb:shortH hs): ∀(d i k:Nat),i+d=hs.length→d<k→spec_FlatRun.l0 k hs o m (hs.take i) (i:Int)=spec_FlatRun.l1 (k-d-1) o m hs 0
 |0,i,k,hi,hk=>by
  obtain ⟨k,rfl⟩: ∃q,k=q+1:=⟨k-1,by omega⟩
  rw [spec_FlatRun.l0,if_neg (by omega),List.take_of_length_le (by omega),show k+1-0-1=k by omega]
 |d+1,i,k,hi,hk=>by
  obtain ⟨k,rfl⟩: ∃q,k=q+1:=⟨k-1,by omega⟩
  have hil:i<hs.length:=by omega
  have hx:=hb _ (List.getElem_mem hil)
  rw [spec_FlatRun.l0,if_pos (by omega),if_pos (by omega),rdH hs i hil]
  unfold spec_l9Copy.f
  rw [Option.bind_some,if_pos (by simp;omega),Option.bind_some,List.nil_append,if_pos (by rw [List.length_take];omega),wrap_succ (by omega)]
  have e:hs.take i++[(⟨(hs[i]).f0,(hs[i]).f1,(hs[i]).f2⟩:Hh)]=hs.take (i+1):=snoc_step hs i hil
  dsimp only
  rw [e,specFlat_l0 hs o m hn hb d (i+1) k (by omega) (by omega)]
  congr 1;omega
theorem specFlat_nil (m:List Int) (hs:List Hh) (hm:m.length≤1048576) (hn:hs.length≤2097152) (hb:shortH hs) (k:Nat) (hk:2097200<k):spec_FlatRun.f k m hs []=some (m,hs):=by
 unfold spec_FlatRun.f
 rw [Option.bind_some,if_pos (by simp;omega),List.nil_append]
 have h:=specFlat_l0 hs [] m hn hb hs.length 0 k (by omega) (by omega)
 rw [List.take_zero] at h
 refine h.trans ?_
 obtain ⟨q,hq⟩: ∃q,k-hs.length-1=q+2:=⟨k-hs.length-3,by omega⟩
 rw [hq,spec_FlatRun.l1,if_neg (by simp),spec_FlatRun.j2,if_neg (by simp)]
theorem specFlat_one (m:List Int) (hs:List Hh) (x:Int) (hm:m.length≤1048576) (hn:hs.length≤1048576) (hb:shortH hs) (hx:0≤x∧x<(hs.length:Int)) (k:Nat) (hk:4200000<k):spec_FlatRun.f k m hs [x]=some ((flatV m (rd_T53 hs x)).1,hs.set x.toNat (flatV m (rd_T53 hs x)).2):=by
 unfold spec_FlatRun.f
 rw [Option.bind_some,if_pos (by simp;omega),List.nil_append]
 have h:=specFlat_l0 hs [x] m (by omega) hb hs.length 0 k (by omega) (by omega)
 rw [List.take_zero] at h
 refine h.trans ?_
 obtain ⟨q,hq⟩: ∃q,k-hs.length-1=q+4:=⟨k-hs.length-5,by omega⟩
 have hsi:=hb _ (rdH_mem _ _ hx.1 hx.2)
 have r0:rd [x] 0=x:=rfl
 have hd:decide (0≤x∧x≤(hs.length:Int)-1)=true:=decide_eq_true ⟨hx.1,by omega⟩
 rw [hq,spec_FlatRun.l1,if_pos (by simp),show decide ((([x]:List Int).length:Int)≤2000)=true from rfl,spec_FlatRun.j2,if_pos rfl,if_pos (by omega),if_pos (by simp),r0,wrap_small (by omega) (by omega),l1In_eq,Option.bind_some,hd,if_pos rfl,if_pos hx.1,if_pos hx.2,specFlatStep_eq _ _ (by omega) hsi _ (by omega),Option.bind_some]
 dsimp only
 rw [show wrap64 (0+1)=1 from by unfold wrap64;omega,spec_FlatRun.l1,if_neg (by simp),spec_FlatRun.j2,if_neg (by simp)]
theorem meets_nil (l:List Int) (hl:l.length≤1048576): ∀(d i k:Nat),i+d=l.length→2*d+1<k→spec_l19Meets.l0 k l [] (i:Int)=some false
 |0,i,k,hi,hk=>by
  obtain ⟨k,rfl⟩: ∃q,k=q+1:=⟨k-1,by omega⟩
  rw [spec_l19Meets.l0,if_neg (by omega)]
 |d+1,i,k,hi,hk=>by
  obtain ⟨k,rfl⟩: ∃q,k=q+2:=⟨k-2,by omega⟩
  rw [spec_l19Meets.l0,if_pos (by omega),spec_l19Meets.l1,if_neg (by simp),wrap_succ (by omega)]
  exact meets_nil l hl d (i+1) k (by omega) (by omega)
theorem meets_one (l:List Int) (x:Int) (hl:l.length≤1048576): ∀(d i k:Nat),i+d=l.length→3*d+1<k→spec_l19Meets.l0 k l [x] (i:Int)=some (decide (x∈l.drop i))
 |0,i,k,hi,hk=>by
  obtain ⟨k,rfl⟩: ∃q,k=q+1:=⟨k-1,by omega⟩
  rw [spec_l19Meets.l0,if_neg (by omega),List.drop_eq_nil_of_le (by omega)];rfl
 |d+1,i,k,hi,hk=>by
  obtain ⟨k,rfl⟩: ∃q,k=q+3:=⟨k-3,by omega⟩
  have hil:i<l.length:=by omega
  have r0:rd [x] 0=x:=rfl
  rw [spec_l19Meets.l0,if_pos (by omega),spec_l19Meets.l1,if_pos (by simp),if_pos (by omega),if_pos (by omega),if_pos (by omega),rd_nat l i hil,r0,List.drop_eq_getElem_cons hil]
  by_cases c:l[i]=x
  ·rw [if_pos c,decide_eq_true (by rw [c];simp)]
  ·have e:decide (x∈l[i] :: l.drop (i+1))=decide (x∈l.drop (i+1)):=by
    have:(x∈l[i] :: l.drop (i+1))↔x∈l.drop (i+1):=by
     rw [List.mem_cons];exact ⟨fun h=>h.resolve_left (fun e=>c e.symm),.inr⟩
    exact decide_eq_decide.2 this
   rw [if_neg c,show wrap64 (0+1)=1 from by unfold wrap64;omega,spec_l19Meets.l1,if_neg (by simp),wrap_succ (by omega),e]
   exact meets_one l x hl d (i+1) k (by omega) (by omega)
theorem meets1_eq (l:List Int) (x:Int) (hl:l.length≤1048576) (k:Nat) (hk:3200000<k):spec_l19Meets.f k l [x]=some (decide (x∈l)):=by
 have:=meets_one l x hl l.length 0 k (by omega) (by omega)
 rwa [List.drop_zero] at this
theorem meets0_eq (l:List Int) (hl:l.length≤1048576) (k:Nat) (hk:3200000<k):spec_l19Meets.f k l []=some false:=meets_nil l hl l.length 0 k (by omega) (by omega)
theorem specRunTo_l0 (o st ce:List Int) (ho:o.length≤2000) (hst:st.length≤1000) (hce:ce.length≤1000): ∀(d i:Nat) (s:List Int×List Hh) (k:Nat),i+d=o.length→wordsB s.1 24=true→s.2.length≤1048576→shortH s.2→2*d+4300000<k→
  spec_RunTo.l0 k o s.1 s.2 (i:Int) st ce=some (runTo4 (watchV st ce s (o.drop i) i)):=by
 intro d
 induction d with
 |zero=>
  intro i s k hi hw hn hb hk
  obtain ⟨k,rfl⟩: ∃q,k=q+1:=⟨k-1,by omega⟩
  have e:i=o.length:=by omega
  subst e
  rw [spec_RunTo.l0,if_neg (by omega),List.drop_eq_nil_of_le (Nat.le_refl _)];rfl
 |succ d ih=>
  intro i s k hi hw hn hb hk
  obtain ⟨k,rfl⟩: ∃q,k=q+2:=⟨k-2,by omega⟩
  have hio:i<o.length:=by omega
  have l24:=wordsB_24 hw
  rw [List.drop_eq_getElem_cons hio,watchV]
  rw [spec_RunTo.l0,if_pos (by omega),if_pos (by omega),rd_nat o i hio,wrap_small (by omega) (by omega),l1In_eq,Option.bind_some]
  have next:spec_RunTo.l0 (k+1) o s.1 s.2 ((i+1:Nat):Int) st ce=some (runTo4 (watchV st ce s (o.drop (i+1)) (i+1))):=ih (i+1) s (k+1) (by omega) hw hn hb (by omega)
  have hw2:=nextV_words s o[i] hw
  have hn2:=(nextV_len s o[i]).2
  have hb2:=nextV_short s o[i] hb
  have next2:spec_RunTo.l0 k o (nextV s o[i]).1 (nextV s o[i]).2 ((i+1:Nat):Int) st ce=some (runTo4 (watchV st ce (nextV s o[i]) (o.drop (i+1)) (i+1))):=ih (i+1) (nextV s o[i]) k (by omega) hw2 (by omega) hb2 (by omega)
  by_cases c:0≤o[i]∧o[i]≤(s.2.length:Int)-1
  ·have hsi:=hb _ (rdH_mem _ _ c.1 (by omega:o[i]<(s.2.length:Int)))
   rw [if_pos (decide_eq_true c),if_pos c.1,if_pos (by omega),specEventOf_eq _ _ _ (by omega) hsi _ (by omega),Option.bind_some]
   by_cases g:goB (rd_T53 s.2 o[i])=true
   ·have mg:mayGo s.2 o[i]:=⟨c.1,by omega,g⟩
    have en:((flatV s.1 (rd_T53 s.2 o[i])).1,s.2.set (o[i]).toNat (flatV s.1 (rd_T53 s.2 o[i])).2)=nextV s o[i]:=by unfold nextV flatV;rw [if_pos ⟨hw,g⟩,if_pos mg]
    have en1:=congrArg Prod.fst en
    have en2:=congrArg Prod.snd en
    dsimp only at en1 en2
    have hp:(eventV s.1 (rd_T53 s.2 o[i]) o[i]).f1=(rd_T53 s.2 o[i]).f1:=by unfold eventV;split<;>rfl
    have hj2:spec_RunTo.j2 (k+1) o s.1 s.2 (i:Int) o[i] false st ce (eventV s.1 (rd_T53 s.2 o[i]) o[i]).f0 (eventV s.1 (rd_T53 s.2 o[i]) o[i]).f1 (eventV s.1 (rd_T53 s.2 o[i]) o[i]).f2 (eventV s.1 (rd_T53 s.2 o[i]) o[i]).f3 (eventV s.1 (rd_T53 s.2 o[i]) o[i]).f4=some (runTo4 (if (eventV s.1 (rd_T53 s.2 o[i]) o[i]).f4≥0∧(eventV s.1 (rd_T53 s.2 o[i]) o[i]).f2∈ce then (nextV s o[i],((i+1:Nat):Int),2) else watchV st ce (nextV s o[i]) (o.drop (i+1)) (i+1))):=by
     rw [spec_RunTo.j2,if_neg (by simp),specFlat_one s.1 s.2 o[i] (by omega) hn hb ⟨c.1,by omega⟩ _ (by omega),Option.bind_some]
     dsimp only
     rw [en1,en2]
     unfold spec_WritesOf.f
     by_cases p:(eventV s.1 (rd_T53 s.2 o[i]) o[i]).f4≥0
     ·rw [if_pos p,Option.bind_some,meets1_eq ce _ (by omega) _ (by omega),Option.bind_some]
      by_cases q:(eventV s.1 (rd_T53 s.2 o[i]) o[i]).f2∈ce
      ·rw [if_pos (decide_eq_true q),if_pos ⟨p,q⟩,wrap_succ (by omega)];rfl
      ·rw [if_neg (by simpa using q),if_neg (fun x=>q x.2),wrap_succ (by omega)];exact next2
     ·rw [if_neg p,Option.bind_some,meets0_eq ce (by omega) _ (by omega),Option.bind_some,if_neg (by simp),if_neg (fun x=>p x.1),wrap_succ (by omega)];exact next2
    rw [if_pos (show wordsB s.1 24=true∧goB (rd_T53 s.2 o[i])=true from ⟨hw,g⟩),if_pos rfl,if_pos mg]
    dsimp only
    by_cases u:(i:Int)>0
    ·rw [if_pos u,meets1_eq st _ (by omega) _ (by omega),Option.bind_some,hp]
     by_cases z:(rd_T53 s.2 o[i]).f1∈st
     ·rw [decide_eq_true z,spec_RunTo.j2,if_pos rfl,if_pos ⟨by omega,z⟩];rfl
     ·rw [decide_eq_false z,if_neg (fun x=>z x.2)];rw [hp] at hj2;exact hj2
    ·rw [if_neg u,if_neg (fun x=>by have:=x.1;omega)];exact hj2
   ·have mg: ¬mayGo s.2 o[i]:=fun q=>g q.2.2
    rw [if_neg (show ¬(wordsB s.1 24=true∧goB (rd_T53 s.2 o[i])=true) from fun q=>g q.2),if_neg (by simp),if_neg mg,wrap_succ (by omega)];exact next
  ·rw [if_neg (by simpa using c),if_neg (fun x=>c ⟨x.1,by have:=x.2.1;omega⟩),wrap_succ (by omega)];exact next
theorem specRunTo_no (m:List Int) (hs:List Hh) (o st ce:List Int) (ho:o.length≤2000) (hm:m.length≤1048576) (hw:wordsB m 24=false) (hn:hs.length≤1048576) (hb:shortH hs): ∀(d i k:Nat),i+d=o.length→d+4300000<k→spec_RunTo.l0 k o m hs (i:Int) st ce=some (m,hs,(o.length:Int),0)
 |0,i,k,hi,hk=>by
  obtain ⟨k,rfl⟩: ∃q,k=q+1:=⟨k-1,by omega⟩
  rw [spec_RunTo.l0,if_neg (by omega)]
 |d+1,i,k,hi,hk=>by
  obtain ⟨k,rfl⟩: ∃q,k=q+1:=⟨k-1,by omega⟩
  have hio:i<o.length:=by omega
  have ih:=specRunTo_no m hs o st ce ho hm hw hn hb d (i+1) k (by omega) (by omega)
  rw [spec_RunTo.l0,if_pos (by omega),if_pos (by omega),rd_nat o i hio,wrap_small (by omega) (by omega),l1In_eq,Option.bind_some]
  by_cases c:0≤o[i]∧o[i]≤(hs.length:Int)-1
  ·have hsi:=hb _ (rdH_mem _ _ c.1 (by omega:o[i]<(hs.length:Int)))
   have hno: ¬(wordsB m 24=true∧goB (rd_T53 hs o[i])=true):=fun x=>by rw [hw] at x;exact absurd x.1 (by simp)
   rw [if_pos (decide_eq_true c),if_pos c.1,if_pos (by omega),specEventOf_eq _ _ _ (by omega) hsi _ (by omega),Option.bind_some,if_neg hno,if_neg (by simp),wrap_succ (by omega)]
   exact ih
  ·rw [if_neg (by simpa using c),wrap_succ (by omega)];exact ih
theorem specRunTo_eq (m:List Int) (hs:List Hh) (o st ce:List Int) (hm:m.length≤1048576) (hn:hs.length≤1048576) (hb:shortH hs) (hst:st.length≤1048576) (hce:ce.length≤1048576) (k:Nat) (hk:4400000<k):spec_RunTo.f k m hs o st ce=some (runTo4 (runToV m hs o st ce)):=by
 obtain ⟨k,rfl⟩: ∃q,k=q+1:=⟨k-1,by omega⟩
 have jt:spec_RunTo.j0 (k+1) o m hs true st ce=some (m,hs,0,0):=by rw [spec_RunTo.j0,if_pos rfl]
 unfold spec_RunTo.f runToV
 rw [specFlat_nil m hs hm (by omega) hb _ (by omega),Option.bind_some]
 dsimp only
 by_cases ho:o.length≤2000
 ·rw [if_neg (by omega),specWatchOk_eq st ce hst hce _ (by omega),Option.bind_some]
  by_cases w:watchB st ce=true
  ·obtain ⟨w1,w2⟩:=watchB_len w
   rw [if_pos (show o.length≤2000∧watchB st ce=true from ⟨ho,w⟩),w,Bool.not_true,spec_RunTo.j0,if_neg (by simp)]
   cases hw:wordsB m 24 with
   |true=>rw [if_pos rfl];exact specRunTo_l0 o st ce ho (by omega) (by omega) o.length 0 (m,hs) k (by omega) hw hn hb (by omega)
   |false=>rw [if_neg (by simp)];exact specRunTo_no m hs o st ce ho hm hw hn hb o.length 0 k (by omega) (by omega)
  ·rw [if_neg (fun x=>w x.2),Bool.eq_false_iff.2 w,Bool.not_false,jt];rfl
 ·rw [if_pos (by omega),if_neg (fun x=>ho x.1),jt];rfl
theorem stepV_shortM (M:Nat) (m:List Int) (h:Hh) (hl:h.f0.length≤M):(stepV m h).2.f0.length≤M:=by
 unfold stepV wkV;dsimp only
 unfold workV;split
 ·split
  ·unfold opV
   split
   ·rw [List.length_set];exact hl
   split
   ·rw [List.length_set];exact hl
   split
   ·rw [List.length_set];exact hl
   split
   ·rw [List.length_set];exact hl
   split
   ·rw [List.length_set];exact hl
   split
   ·exact hl
   split
   ·rw [List.length_set];exact hl
   split
   ·split<;>exact hl
   split
   ·exact hl
   split<;>exact hl
  ·exact hl
 ·exact hl
theorem nextV_shortM (M:Nat) (s:List Int×List Hh) (i:Int) (h: ∀x∈s.2,x.f0.length≤M): ∀x∈(nextV s i).2,x.f0.length≤M:=by
 unfold nextV;split
 ·rename_i c
  intro x hx
  rcases List.mem_or_eq_of_mem_set hx with hx|rfl
  ·exact h x hx
  ·exact stepV_shortM M _ _ (h _ (rdH_mem _ _ c.1 c.2.1))
 ·exact h
theorem watchV_len (M:Nat) (st ce:List Int): ∀(o:List Int) (s:List Int×List Hh) (u:Nat),(∀x∈s.2,x.f0.length≤M)→(watchV st ce s o u).1.1.length=s.1.length∧(watchV st ce s o u).1.2.length=s.2.length∧∀x∈(watchV st ce s o u).1.2,x.f0.length≤M
 |[],s,u,h=>⟨rfl,rfl,h⟩
 |i :: o,s,u,h=>by
  have hn:=nextV_len s i
  have hq:=nextV_shortM M s i h
  have ih:=watchV_len M st ce o (nextV s i) (u+1) hq
  rw [watchV]
  split
  ·split
   ·exact ⟨rfl,rfl,h⟩
   split
   ·exact ⟨hn.1,hn.2,hq⟩
   ·exact ⟨ih.1.trans hn.1,ih.2.1.trans hn.2,ih.2.2⟩
  ·exact watchV_len M st ce o s (u+1) h
theorem runToV_len (M:Nat) (m:List Int) (hs:List Hh) (o st ce:List Int) (h: ∀x∈hs,x.f0.length≤M):(runToV m hs o st ce).1.1.length=m.length∧(runToV m hs o st ce).1.2.length=hs.length∧∀x∈(runToV m hs o st ce).1.2,x.f0.length≤M:=by
 unfold runToV;split
 ·split
  ·exact watchV_len M st ce o (m,hs) 0 h
  ·exact ⟨rfl,rfl,h⟩
 ·exact ⟨rfl,rfl,h⟩
theorem szHartS_lle (l:List S95) (hl:l.length≤1048576) (hx: ∀x∈l,x.f0.length≤maxLen): ∀(k i:Nat) (a r:Int),0≤a→a≤1048576→i≤l.length→l.length<i+k→laws_szHartS.l0 k l a (i:Int)=some r→r≤a∨r<0
 |0,i,_,_,_,_,_,_,_=>by omega
 |k+1,i,a,r,h0,h1,hi,hk,e0=>by
  rw [laws_szHartS.l0] at e0
  by_cases h:i<l.length
  ·rw [if_pos (by omega),if_pos (by omega),rdLHart l i h] at e0
   obtain ⟨q,e,h2,h3⟩:=szHart_ex (l[i]).f0 (l[i]).f1 (l[i]).f2 a h0 h1 (hx _ (List.getElem_mem h))
   rw [e,Option.bind_some] at e0
   by_cases hr:q<0
   ·rw [if_pos hr] at e0;have:=Option.some.inj e0;omega
   ·have h3':=h3 (by omega)
    rw [if_neg hr,wrap_succ (by omega)] at e0
    have:=szHartS_lle l hl hx k (i+1) q r (by omega) (by omega) (by omega) (by omega) e0
    omega
  ·rw [if_neg (by omega)] at e0;have:=Option.some.inj e0;omega
theorem szHartS_le (l:List S95) (a r:Int) (h0:0≤a) (h1:a≤1048576) (hm:l.length≤maxLen) (hx: ∀x∈l,x.f0.length≤maxLen) (k:Nat) (hk:1048577<k) (e:laws_szHartS.f k l a=some r) (hr:0≤r):r≤a:=by
 unfold maxLen at hm
 unfold laws_szHartS.f at e
 rw [wrap_small (by omega) (by omega)] at e
 by_cases h:a-(l.length:Int)<0
 ·rw [if_pos h] at e;have:=Option.some.inj e;omega
 ·rw [if_neg h] at e
  have:=szHartS_lle l (by omega) hx k 0 (a-(l.length:Int)) r (by omega) (by omega) (by omega) (by omega) e
  omega
theorem FnExactRunTo:laws_FnExactRunTo.Pure:=by
 rintro m hs o st ce ⟨_,_⟩ ⟨n1,wh⟩ ⟨_,_⟩ ⟨⟨s1,_⟩,c1,_⟩
 obtain ⟨K,hK⟩: ∃K:Nat,5000000≤K:=⟨_,Nat.le_refl _⟩
 refine ⟨K,?_⟩
 unfold laws_FnExactRunTo.f
 by_cases g1:(m.length:Int)>1048576
 ·rw [if_pos g1]
 by_cases g2:(o.length:Int)>1048576
 ·rw [if_neg g1,if_pos g2]
 rw [if_neg g1,if_neg g2]
 have wh': ∀x∈hs,x.f0.length≤maxLen:=fun x hx=>(wh x hx).1.1
 obtain ⟨r,e,hr⟩:=szHartS_ex hs 1048576 (by omega) (by omega) n1 wh' K (by omega)
 rw [e,Option.bind_some]
 by_cases g3:r<0
 ·rw [if_pos g3]
 have hrl:=szHartS_le hs 1048576 r (by omega) (by omega) n1 wh' K (by omega) e (by omega)
 obtain ⟨ln,lh⟩:=hr (by omega)
 rw [if_neg g3]
 clear e hr wh wh'
 obtain ⟨q,e,hq⟩:=szWatch_ex st ce r (by omega) hrl s1 c1
 rw [e,Option.bind_some]
 by_cases g4:q<0
 ·rw [if_pos g4]
 obtain ⟨ls,lc⟩:=hq (by omega)
 rw [if_neg g4]
 clear e hq
 have lm:m.length≤1048576:=by omega
 have lo:o.length≤1048576:=by omega
 clear g1 g2 g3 g4 hrl n1 s1 c1
 have e1:=toIntS_eq m lm K (by omega)
 have e2:=toHartS_eq hs ln lh K (by omega)
 have e3:=toIntS_eq o lo K (by omega)
 have hH1:(hs.map toHartV).length≤1048576:=by simpa using ln
 have hH2: ∀x∈hs.map toHartV,x.f0.length≤1048576:=fun x hx=>by
  obtain ⟨y,hy,rfl⟩:=List.mem_map.1 hx;exact lh y hy
 generalize hs.map toHartV=H at e2 hH1 hH2
 have hsh:shortH H:=fun x hx=>by have:=hH2 x hx;omega
 have e4:laws_toWatch.f K st ce=some (st,ce):=by unfold laws_toWatch.f;rw [toIntS_eq st ls K (by omega),Option.bind_some,toIntS_eq ce lc K (by omega)];rfl
 have e5:laws_eqWatch.f K st ce st ce=some true:=by unfold laws_eqWatch.f;rw [eqIntS_eq st st ls K (by omega),decide_eq_true rfl,Option.bind_some,if_pos rfl,eqIntS_eq ce ce lc K (by omega),decide_eq_true rfl];rfl
 have e6:=specRunTo_eq m H o st ce lm hH1 hsh ls lc K (by omega)
 have e7:=implRunTo_eq m H o st ce lm (by omega) hsh ls lc K (by omega)
 obtain ⟨v1,v2,v3⟩:=runToV_len 1048576 m H o st ce hH2
 generalize runToV m H o st ce=V at e6 e7 v1 v2 v3
 obtain ⟨⟨M,G⟩,u,y⟩:=V
 dsimp only [runTo4] at e6 e7 v1 v2 v3
 have f1:laws_eqIntS.f K m m=some true:=by rw [eqIntS_eq m m lm K (by omega),decide_eq_true rfl]
 have f2:laws_eqHartS.f K H H=some true:=eqHartS_same H hH1 hH2 K (by omega)
 have f3:laws_eqIntS.f K o o=some true:=by rw [eqIntS_eq o o lo K (by omega),decide_eq_true rfl]
 have f4:laws_eqIntS.f K M M=some true:=by rw [eqIntS_eq M M (by omega) K (by omega),decide_eq_true rfl]
 have f5:laws_eqHartS.f K G G=some true:=eqHartS_same G (by omega) v3 K (by omega)
 have h1:=markIntS_eq m 1 (by omega) (by omega) (by omega) K (by omega)
 have b1:=marksH_bd 1048576 H (1+(m.length:Int)) hH2
 have b2:=marksH_le H (1+(m.length:Int))
 have b3:(marksH H (1+(m.length:Int))).2≤1099513724929+1048576:=by omega
 have h2:=markHartS_eq H (1+(m.length:Int)) (by omega) (by omega) (fun x hx=>by have:=hH2 x hx;omega) (by omega) K (by omega)
 clear b1
 generalize marksH H (1+(m.length:Int))=A at b2 b3 h2
 obtain ⟨A1,A2⟩:=A
 dsimp only at b2 b3 h2
 have h3:=markIntS_eq o A2 (by omega) (by omega) (by omega) K (by omega)
 have h4: ∃z1 z2 z3,laws_markWatch.f K st ce (A2+(o.length:Int))=some (z1,z2,z3)∧0≤z1:=by
  unfold laws_markWatch.f
  rw [markIntS_eq st _ (by omega) (by omega) (by omega) K (by omega),Option.bind_some]
  dsimp only
  rw [markIntS_eq ce _ (by omega) (by omega) (by omega) K (by omega),Option.bind_some]
  exact ⟨_,_,_,rfl,by omega⟩
 obtain ⟨z1,z2,z3,h4,hz⟩:=h4
 have k1:=markIntS_eq M 1 (by omega) (by omega) (by omega) K (by omega)
 have d1:=marksH_bd 1048576 G (1+(M.length:Int)) v3
 have d2:=marksH_le G (1+(M.length:Int))
 have d3:(marksH G (1+(M.length:Int))).2≤1099513724929+1048576:=by omega
 clear d1
 have k2:=markHartS_eq G (1+(M.length:Int)) (by omega) (by omega) (fun x hx=>by have:=v3 x hx;omega) (by omega) K (by omega)
 have k3:=heldIntS_eq 1 M.length (by omega) (by omega) (by omega) K (by omega)
 have k4:=heldHartS_eq G (1+(M.length:Int)) (by omega) (by omega) (fun x hx=>by have:=v3 x hx;omega) (by omega) K (by omega)
 rw [e1,Option.bind_some,e2,Option.bind_some,e3,Option.bind_some,e4,Option.bind_some]
 try dsimp only
 rw [e6,Option.bind_some,Option.bind_some,Option.bind_some,Option.bind_some,Option.bind_some]
 try dsimp only
 rw [e7,Option.bind_some]
 try dsimp only
 rw [f4,Option.bind_some,if_pos rfl,f5,Option.bind_some,if_pos rfl,if_pos rfl,if_pos rfl,Option.bind_some,f1,Option.bind_some,if_pos rfl,Option.bind_some,f2,Option.bind_some,if_pos rfl,Option.bind_some,f3,Option.bind_some,if_pos rfl,Option.bind_some]
 try dsimp only
 rw [e5,Option.bind_some,if_pos rfl,h1,Option.bind_some]
 try dsimp only
 rw [h2,Option.bind_some]
 try dsimp only
 rw [h3,Option.bind_some]
 try dsimp only
 rw [h4,Option.bind_some]
 try dsimp only
 rw [if_neg (by omega),Option.bind_some,if_pos rfl,Option.bind_some,if_pos rfl,k1,Option.bind_some]
 try dsimp only
 rw [k2,Option.bind_some]
 try dsimp only
 rw [k3,Option.bind_some,if_neg (by omega),k4,Option.bind_some,if_neg (by omega),if_pos rfl,Option.bind_some,Option.bind_some,Option.bind_some,Option.bind_some]
 try dsimp only
 rw [e7,Option.bind_some]
 try dsimp only
 rw [f4,Option.bind_some,if_pos rfl,f5,Option.bind_some,if_pos rfl,if_pos rfl,if_pos rfl,Option.bind_some,if_neg (by omega),k4,Option.bind_some,if_neg (by omega),if_pos rfl]
end Go.Proofs.Ytpcgecacaemalaa.Pure
