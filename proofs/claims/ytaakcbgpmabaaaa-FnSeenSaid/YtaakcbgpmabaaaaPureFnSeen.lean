/- For all bytes: what each hart of a drawn run saw was seen in some order, and a word that was never there was not: no conditions. -/
import Derived.Test.YtaakcbgpmabaaaaPFnSeenx21
namespace Go.Proofs.Ytaakcbgpmabaaaa.Pure
open Go.RowKit Go.Proofs.Ytaakcbgpmabaaaa.PFnSeen Go.Proofs.YtaakcbgpmabaaaaW.PrintWords Go.Proofs.YtaakcbgpmabaaaaW.PrintLast
set_option linter.unusedVariables false
set_option linter.unusedSimpArgs false

theorem wrap_small {x:Int} (h0: -9223372036854775808≤x) (h:x≤9223372036854775807):wrap64 x=x:=by
 unfold wrap64;omega
theorem wrap_succ {i:Nat} (h:i<4611686018427387904):wrap64 ((i:Int)+1)=((i+1:Nat):Int):=by
 unfold wrap64;omega
theorem rd_nat (l:List Int) (i:Nat) (h:i<l.length):rd l (i:Int)=l[i]:=by
 unfold rd;simp [List.getD,h]
theorem rd_mem (l:List Int) (i:Nat) (h:i<l.length):rd l (i:Int)∈l:=by
 rw [rd_nat l i h];exact List.getElem_mem h
theorem for_st {σ ρ:Type} (n:Nat) (L:Nat→Nat→σ→Option ρ) (st:Nat→σ) (r:ρ) (hs: ∀k i,i<n→L (k+1) i (st i)=L k (i+1) (st (i+1))) (he: ∀k,L (k+1) n (st n)=some r):
  ∀(k i:Nat),i≤n→n<i+k→L k i (st i)=some r
 |0,i,hi,hk=>by omega
 |k+1,i,hi,hk=>by
  by_cases h:i<n
  ·rw [hs k i h];exact for_st n L st r hs he k (i+1) (by omega) (by omega)
  ·have:i=n:=by omega
   subst this;exact he k
theorem for_find {ρ:Type} (n:Nat) (L:Nat→Nat→Option ρ) (p:Nat→Prop) (b:Nat→ρ) (r:ρ) (hs: ∀k i,i<n→¬p i→L (k+1) i=L k (i+1)) (hb: ∀k i,i<n→p i→L (k+1) i=some (b i)) (he: ∀k,L (k+1) n=some r):
  ∀(k i:Nat),i≤n→n<i+k→(∃j,i≤j∧j<n∧p j∧(∀m,i≤m→m<j→¬p m)∧L k i=some (b j))∨(∀j,i≤j→j<n→¬p j)∧L k i=some r
 |0,i,hi,hk=>by omega
 |k+1,i,hi,hk=>by
  by_cases h:i<n
  ·by_cases hp:p i
   ·exact .inl ⟨i,Nat.le_refl _,h,hp,fun m h1 h2=>by omega,hb k i h hp⟩
   ·rw [hs k i h hp]
    rcases for_find n L p b r hs hb he k (i+1) (by omega) (by omega) with ⟨j,h1,h2,h3,h4,h5⟩|⟨h1,h2⟩
    ·refine .inl ⟨j,by omega,h2,h3,fun m hm1 hm2=>?_,h5⟩
     by_cases e:m=i
     ·subst e;exact hp
     ·exact h4 m (by omega) hm2
    ·refine .inr ⟨fun j hj1 hj2=>?_,h2⟩
     by_cases e:j=i
     ·subst e;exact hp
     ·exact h1 j (by omega) hj2
  ·have:i=n:=by omega
   subst this;exact .inr ⟨fun j h1 h2=>by omega,he k⟩
theorem for_all {n:Nat} {L:Nat→Nat→Option Bool} (p:Nat→Prop) (hs: ∀k i,i<n→p i→L (k+1) i=L k (i+1)) (hb: ∀k i,i<n→¬p i→L (k+1) i=some false) (c:Bool) (he: ∀k,L (k+1) n=some c) {q:Bool}
  (hq:q=true↔(∀j,j<n→p j)∧c=true) (k:Nat) (hk:n<k):L k 0=some q:=by
 rcases for_find n L (fun i=>¬p i) (fun _=>false) c (fun k i h hp=>hs k i h (Classical.not_not.1 hp)) (fun k i h hp=>hb k i h hp) he k 0 (Nat.zero_le _) (by omega) with ⟨j,_,h2,h3,_,h5⟩|⟨h1,h2⟩
 ·rw [h5];congr 1;symm
  rw [Bool.eq_false_iff];intro hh;exact h3 ((hq.1 hh).1 j h2)
 ·rw [h2];congr 1
  have: ∀j,j<n→p j:=fun j hj=>Classical.not_not.1 (h1 j (Nat.zero_le _) hj)
  rw [Bool.eq_iff_iff,hq];exact ⟨fun h=>⟨this,h⟩,fun h=>h.2⟩
theorem snoc_step {α:Type} (a:List α) (i:Nat) (hi:i<a.length):a.take i++[a[i]'hi]=a.take (i+1):=by
 rw [List.take_succ_eq_append_getElem hi]
theorem wraps_i64 (n:Int) (h0:0≤n) (h1:n<2 ^ 62):IntKind.i64.wrap n=n:=by rw [IntKind.wrap_i64];omega
def wordsB (l:List Int) (n:Int):Bool:=decide ((l.length:Int)=n)&&l.all (fun x=>decide (0≤x∧x≤65535))
theorem wordsB_mem {l:List Int} {n:Int} (h:wordsB l n=true) (x:Int) (hx:x∈l):0≤x∧x≤65535:=by
 unfold wordsB at h;rw [Bool.and_eq_true,List.all_eq_true] at h;exact of_decide_eq_true (h.2 x hx)
def hartB (regs:List Int) (pc st:Int):Bool:=wordsB regs 4&&(decide (0≤pc∧pc≤23)&&decide (0≤st∧st≤2))
theorem ite_some' (b c:Bool):(if b=true then some c else some false)=some (b&&c):=by cases b<;>rfl
theorem hartB_len {r:List Int} {p s:Int} (h:hartB r p s=true):r.length=4:=by
 unfold hartB wordsB at h;rw [Bool.and_eq_true,Bool.and_eq_true] at h;have:=of_decide_eq_true h.1.1;omega
theorem wordsB_24 {l:List Int} (h:wordsB l 24=true):l.length=24:=by unfold wordsB at h;rw [Bool.and_eq_true] at h;have:=of_decide_eq_true h.1;omega
theorem tmod_pos (n c:Int) (h:0≤n):Int.tmod n c=n % c:=Int.tmod_eq_emod_of_nonneg h
theorem tmod_neg (n c:Int) (h:n<0):Int.tmod n c= -((-n) % c):=by
 rw [←Int.tmod_eq_emod_of_nonneg (by omega:0≤ -n),Int.neg_tmod,Int.neg_neg]
theorem tdiv_pos (n c:Int) (h:0≤n):Int.tdiv n c=n / c:=Int.tdiv_eq_ediv_of_nonneg h
theorem tmod_up (n c:Int) (hc:0<c) (hb:c≤4294967296):Int.tmod (Int.tmod n c+c) c=n % c:=by
 have h1:=Int.emod_nonneg n (by omega:c≠0)
 have h2:=Int.emod_lt_of_pos n hc
 rcases Int.lt_or_le n 0 with h|h
 ·rw [tmod_neg n c h]
  have h3:=Int.emod_nonneg (-n) (by omega:c≠0)
  have h4:=Int.emod_lt_of_pos (-n) hc
  rw [tmod_pos _ _ (by omega),Int.add_emod_right,←Int.sub_emod_right]
  have:=Int.emod_add_mul_ediv (-n) c
  have e: -(-n % c)-c=n+c*((-n) / c-1):=by
   have:n= -(-n % c)-c*((-n) / c):=by omega
   rw [Int.mul_sub];omega
  rw [e,Int.add_mul_emod_self_left]
 ·rw [tmod_pos n c h,tmod_pos _ _ (by omega),Int.add_emod_right,Int.emod_emod_of_dvd _ (Int.dvd_refl c)]
theorem tmod_bd (n c:Int) (hc:0<c): -c<Int.tmod n c∧Int.tmod n c<c:=by
 rcases Int.lt_or_le n 0 with h|h
 ·rw [tmod_neg n c h]
  have h3:=Int.emod_nonneg (-n) (by omega:c≠0)
  have h4:=Int.emod_lt_of_pos (-n) hc
  omega
 ·rw [tmod_pos n c h]
  have h3:=Int.emod_nonneg n (by omega:c≠0)
  have h4:=Int.emod_lt_of_pos n hc
  omega
theorem for_stC {σ ρ:Type} (C n:Nat) (L:Nat→Nat→σ→Option ρ) (st:Nat→σ) (r:ρ) (hs: ∀k i,C≤k→i<n→L (k+1) i (st i)=L k (i+1) (st (i+1))) (he: ∀k,C≤k→L (k+1) n (st n)=some r):
  ∀(k i:Nat),i≤n→n+C<i+k→L k i (st i)=some r
 |0,i,hi,hk=>by omega
 |k+1,i,hi,hk=>by
  by_cases h:i<n
  ·rw [hs k i (by omega) h];exact for_stC C n L st r hs he k (i+1) (by omega) (by omega)
  ·have:i=n:=by omega
   subst this;exact he k (by omega)
theorem l1In_eq (x lo hi:Int):spec_l1In.f x lo hi=some (decide (lo≤x∧x≤hi)):=by
 unfold spec_l1In.f
 by_cases h:x≥lo
 ·rw [if_pos h];have h':lo≤x:=h;simp [h']
 ·rw [if_neg h];have h': ¬lo≤x:=h;simp [h']
theorem from_eq (x lo hi:Int):impl_from.f x lo hi=some (decide (lo≤x∧x≤hi)):=by
 unfold impl_from.f
 by_cases h:x≥lo
 ·rw [if_pos h];have h':lo≤x:=h;simp [h']
 ·rw [if_neg h];have h': ¬lo≤x:=h;simp [h']
theorem isWord_eq (x:Int):impl_isWord.f x=some (decide (0≤x∧x≤65535)):=by
 unfold impl_isWord.f;rw [from_eq];rfl
theorem isCell_eq (x:Int):impl_isCell.f x=some (decide (0≤x∧x≤23)):=by
 unfold impl_isCell.f;rw [from_eq];rfl
theorem l1Words_eq (l:List Int) (n:Int) (hl:l.length≤2097152) (k:Nat) (hk:l.length<k):spec_l1Words.f k l n=some (wordsB l n):=by
 unfold spec_l1Words.f
 refine for_all (L:=fun k i=>spec_l1Words.l0 k l n (i:Int)) (n:=l.length) (fun j=>0≤rd l (j:Int)∧rd l (j:Int)≤65535) ?_ ?_ (decide ((l.length:Int)=n)) ?_ ?_ k hk
 ·intro k i hi hp
  simp only [spec_l1Words.l0]
  rw [if_pos (by omega),if_pos (by omega),l1In_eq,decide_eq_true hp,Option.bind_some,if_pos rfl,wrap_succ (by omega)]
 ·intro k i hi hp
  simp only [spec_l1Words.l0]
  rw [if_pos (by omega),if_pos (by omega),l1In_eq,decide_eq_false hp,Option.bind_some,if_neg (by simp)]
 ·intro k
  simp only [spec_l1Words.l0]
  rw [if_neg (by omega)];rfl
 ·unfold wordsB
  rw [Bool.and_eq_true,List.all_eq_true]
  constructor
  ·rintro ⟨h1,h2⟩;exact ⟨fun j hj=>of_decide_eq_true (h2 _ (rd_mem l j hj)),h1⟩
  ·rintro ⟨h1,h2⟩;refine ⟨h2,fun x hx=>?_⟩
   obtain ⟨j,hj,rfl⟩:=List.getElem_of_mem hx
   have:=h1 j hj;rw [rd_nat l j hj] at this;exact decide_eq_true this
theorem wordsOk_eq (l:List Int) (n:Int) (hl:l.length≤2097152) (k:Nat) (hk:l.length<k):impl_wordsOk.f k l n=some (wordsB l n):=by
 unfold impl_wordsOk.f
 by_cases h:(l.length:Int)=n
 ·rw [if_pos h]
  unfold slices_ContainsFunc_at_impl_wordsOk_1.f slices_IndexFunc_at_impl_wordsOk_1.f
  have hf: ∀x,impl_wordsOk_1.f x=some (!decide (0≤x∧x≤65535)):=fun x=>by unfold impl_wordsOk_1.f;rw [isWord_eq];rfl
  have hs: ∀k i,i<l.length→¬¬(0≤rd l (i:Int)∧rd l (i:Int)≤65535)→slices_IndexFunc_at_impl_wordsOk_1.l0 (k+1) l (l.length:Int) (i:Int)=slices_IndexFunc_at_impl_wordsOk_1.l0 k l (l.length:Int) ((i+1:Nat):Int):=by
   intro k i hi hp
   simp only [slices_IndexFunc_at_impl_wordsOk_1.l0]
   rw [if_pos (by omega),if_pos (by omega),if_pos (by omega),hf,decide_eq_true (Classical.not_not.1 hp),Option.bind_some,if_neg (by simp),wrap_succ (by omega)]
  have hb: ∀k i,i<l.length→¬(0≤rd l (i:Int)∧rd l (i:Int)≤65535)→slices_IndexFunc_at_impl_wordsOk_1.l0 (k+1) l (l.length:Int) (i:Int)=some (i:Int):=by
   intro k i hi hp
   simp only [slices_IndexFunc_at_impl_wordsOk_1.l0]
   rw [if_pos (by omega),if_pos (by omega),if_pos (by omega),hf,decide_eq_false hp,Option.bind_some,if_pos (by simp)]
  have he: ∀k,slices_IndexFunc_at_impl_wordsOk_1.l0 (k+1) l (l.length:Int) (l.length:Int)=some (-1):=by
   intro k
   simp only [slices_IndexFunc_at_impl_wordsOk_1.l0]
   rw [if_neg (by omega)]
  rcases for_find l.length (fun k i=>slices_IndexFunc_at_impl_wordsOk_1.l0 k l (l.length:Int) (i:Int)) (fun j=>¬(0≤rd l (j:Int)∧rd l (j:Int)≤65535)) (fun j=>(j:Int)) (-1) hs hb he k 0 (Nat.zero_le _) (by omega) with ⟨j,_,h2,h3,_,h5⟩|⟨h1,h2⟩
  ·have h5':slices_IndexFunc_at_impl_wordsOk_1.l0 k l (l.length:Int) 0=some (j:Int):=h5
   rw [h5']
   simp only [Option.bind_some];congr 1;symm
   rw [decide_eq_true (by omega:(j:Int)≥0),Bool.not_true,wordsB,Bool.and_eq_false_iff];right
   rw [Bool.eq_false_iff];intro hh
   exact h3 (of_decide_eq_true (List.all_eq_true.1 hh _ (rd_mem l j h2)))
  ·have h2':slices_IndexFunc_at_impl_wordsOk_1.l0 k l (l.length:Int) 0=some (-1):=h2
   rw [h2']
   simp only [Option.bind_some];congr 1;symm
   rw [decide_eq_false (by omega: ¬(-1:Int)≥0),Bool.not_false,wordsB,decide_eq_true h,Bool.true_and,List.all_eq_true]
   intro x hx
   obtain ⟨j,hj,rfl⟩:=List.getElem_of_mem hx
   have:=Classical.not_not.1 (h1 j (Nat.zero_le _) hj);rw [rd_nat l j hj] at this;exact decide_eq_true this
 ·rw [if_neg h,wordsB,decide_eq_false h,Bool.false_and]
theorem memOk_eq (l:List Int) (hl:l.length≤2097152) (k:Nat) (hk:l.length<k):impl_memOk.f k l=some (wordsB l 24):=by
 unfold impl_memOk.f;rw [wordsOk_eq l 24 hl k hk];rfl
theorem insOkB_bounds {o r a b n:Int} (h:insOkB o r a b n=true):1≤o∧o≤10∧0≤r∧r≤3∧0≤a∧a≤3∧0≤b∧b≤3∧0≤n∧n≤63:=by
 unfold insOkB at h
 simp only [Bool.and_eq_true,decide_eq_true_eq] at h
 obtain ⟨h0,⟨h1,h1'⟩,⟨h2,h2'⟩,⟨h3,h3'⟩,⟨h4,h4'⟩⟩:=h
 refine ⟨?_,?_,h1,h1',h2,h2',h3,h3',h4,h4'⟩
 ·by_cases c:1≤o
  ·exact c
  ·exfalso
   rw [if_neg (by omega),if_neg (by omega),if_neg (by omega),if_neg (by omega),if_neg (by omega),if_neg (by omega),if_neg (by omega),if_neg (by omega),if_neg (by omega),if_neg (by omega)] at h0
   cases h0
 ·by_cases c:o≤10
  ·exact c
  ·exfalso
   rw [if_neg (by omega),if_neg (by omega),if_neg (by omega),if_neg (by omega),if_neg (by omega),if_neg (by omega),if_neg (by omega),if_neg (by omega),if_neg (by omega),if_neg (by omega)] at h0
   cases h0
theorem ite_some (b c:Bool):(if b=true then some c else some false)=some (b&&c):=by cases b<;>rfl
theorem l8Field_eq (x m:Int) (h:Bool):spec_l8Field.f x m h=some (decide (0≤x∧x≤m)&&(h||decide (x=0))):=by
 unfold spec_l8Field.f
 rw [l1In_eq,Option.bind_some]
 have e:(x == 0)=decide (x=0):=rfl
 rw [e]
 cases h<;>simp only [if_true,Bool.false_eq_true,if_false,Bool.true_or,Bool.false_or,ite_some]
theorem specInsOk_eq (o r a b n:Int):spec_InsOk.f o r a b n=some (insOkB o r a b n):=by
 unfold spec_InsOk.f spec_l8Has.f
 simp only [l1In_eq,l8Field_eq,Option.bind_some,ite_some]
 by_cases ho:1≤o∧o≤10
 ·have hc:o=1∨o=2∨o=3∨o=4∨o=5∨o=6∨o=7∨o=8∨o=9∨o=10:=by omega
  rw [decide_eq_true ho]
  rcases hc with rfl|rfl|rfl|rfl|rfl|rfl|rfl|rfl|rfl|rfl<;>
   (simp only [if_true,Option.bind_some,List.length_cons,List.length_nil]
    rw [if_pos (by omega),if_pos (by omega)]
    simp only [rd,Option.bind_some,Bool.true_and]
    congr 1
    rw [Bool.eq_iff_iff]
    simp [insOkB,show Go.bits .and .i64 0 1=0 by decide,show Go.bits .and .i64 0 2=0 by decide,show Go.bits .and .i64 0 4=0 by decide,show Go.bits .and .i64 0 8=0 by decide,
     show Go.bits .and .i64 7 1=1 by decide,show Go.bits .and .i64 7 2=2 by decide,show Go.bits .and .i64 7 4=4 by decide,show Go.bits .and .i64 7 8=0 by decide,
     show Go.bits .and .i64 8 1=0 by decide,show Go.bits .and .i64 8 2=0 by decide,show Go.bits .and .i64 8 4=0 by decide,show Go.bits .and .i64 8 8=8 by decide,
     show Go.bits .and .i64 9 1=1 by decide,show Go.bits .and .i64 9 2=0 by decide,show Go.bits .and .i64 9 4=0 by decide,show Go.bits .and .i64 9 8=8 by decide,
     show Go.bits .and .i64 10 1=0 by decide,show Go.bits .and .i64 10 2=2 by decide,show Go.bits .and .i64 10 4=0 by decide,show Go.bits .and .i64 10 8=8 by decide,
     show Go.bits .and .i64 11 1=1 by decide,show Go.bits .and .i64 11 2=2 by decide,show Go.bits .and .i64 11 4=0 by decide,show Go.bits .and .i64 11 8=8 by decide,
     show Go.bits .and .i64 14 1=0 by decide,show Go.bits .and .i64 14 2=2 by decide,show Go.bits .and .i64 14 4=4 by decide,show Go.bits .and .i64 14 8=8 by decide,
     show Go.bits .and .i64 15 1=1 by decide,show Go.bits .and .i64 15 2=2 by decide,show Go.bits .and .i64 15 4=4 by decide,show Go.bits .and .i64 15 8=8 by decide]
    try omega)
 ·have hn: ∀c,1≤c→c≤10→o≠c:=fun c h1 h2 e=>ho (by omega)
  simp [ho,insOkB,hn]
def dgF:Nat→Nat→ByteArray
 |0,_=>⟨#[]⟩
 |f+1,n=>if n<10 then ⟨#[UInt8.ofNat (48+n)]⟩ else dgF f (n / 10)++⟨#[UInt8.ofNat (48+n % 10)]⟩
def dg (n:Nat):ByteArray:=dgF 20 n
theorem dgF_size: ∀f n,(dgF f n).size≤f
 |0,_=>Nat.le_refl _
 |f+1,n=>by
  unfold dgF
  by_cases h:n<10
  ·rw [if_pos h];show 1≤f+1;omega
  ·rw [if_neg h,ByteArray.size_append];have:=dgF_size f (n / 10);show _+1≤_;omega
theorem enc_digit (d:Nat) (h:d<10):Go.Utf8.encode (wrap32 (wrap64 (48+(d:Int))))=⟨#[UInt8.ofNat (48+d)]⟩:=by
 have e:wrap32 (wrap64 (48+(d:Int)))=48+(d:Int):=by unfold wrap32 wrap64;omega
 rw [e]
 have hc:d=0∨d=1∨d=2∨d=3∨d=4∨d=5∨d=6∨d=7∨d=8∨d=9:=by omega
 rcases hc with rfl|rfl|rfl|rfl|rfl|rfl|rfl|rfl|rfl|rfl<;>simp [Go.Utf8.encode,Go.Utf8.valid]
theorem digits_f: ∀(f:Nat) (n:Nat),f≤20→n<10 ^ f→n<9223372036854775808→0<f→∀k,2*f<k→impl_digits.f k (n:Int)=some (dgF f n)
 |0,n,_,_,_,h,_,_=>by omega
 |f+1,n,hf,hn,hb,_,k,hk=>by
  obtain ⟨k,rfl⟩: ∃m,k=m+2:=⟨k-2,by omega⟩
  simp only [impl_digits.f,impl_digits.j0,dgF]
  rw [if_neg (by omega),if_neg (by simp),if_neg (by omega)]
  by_cases h:n<10
  ·rw [if_pos (by omega),if_pos h,enc_digit n h]
  ·have hd:Int.tdiv (n:Int) 10=((n / 10:Nat):Int):=by rw [Int.tdiv_eq_ediv_of_nonneg (by omega)];omega
   have hm:Int.tmod (n:Int) 10=((n % 10:Nat):Int):=by rw [Int.tmod_eq_emod_of_nonneg (by omega)];omega
   have hp:n / 10<10 ^ f:=by rw [Nat.pow_succ] at hn;omega
   have hf0:0<f:=by
    rcases Nat.eq_zero_or_pos f with e|e
    ·subst e;simp at hp;omega
    ·exact e
   rw [if_neg (by omega),if_neg h,hd,hm,wrap_small (by omega) (by omega),digits_f f (n / 10) (by omega) hp (by omega) hf0 k (by omega),Option.bind_some,enc_digit (n % 10) (by omega),if_pos (by have:=dgF_size f (n / 10);show _+1≤_;omega)]
theorem digits_eq (n:Int) (h0:0≤n) (hb:n<9223372036854775808) (k:Nat) (hk:40<k):impl_digits.f k n=some (dg n.toNat):=by
 have h:=digits_f 20 n.toNat (by omega) (by omega) (by omega) (by omega) k (by omega)
 rwa [Int.toNat_of_nonneg h0] at h
theorem dg_size (n:Nat):(dg n).size≤20:=dgF_size 20 n
theorem str_digit (d:Nat) (h:d<10):strOfNums [wrap64 (48+(d:Int)) % 256]=⟨#[UInt8.ofNat (48+d)]⟩:=by
 have e:wrap64 (48+(d:Int)) % 256=48+(d:Int):=by unfold wrap64;omega
 rw [e]
 have hc:d=0∨d=1∨d=2∨d=3∨d=4∨d=5∨d=6∨d=7∨d=8∨d=9:=by omega
 rcases hc with rfl|rfl|rfl|rfl|rfl|rfl|rfl|rfl|rfl|rfl<;>rfl
theorem l16Digits_l: ∀(f:Nat) (n:Nat) (acc:ByteArray),f≤20→0<n→n<10 ^ f→n<9223372036854775808→acc.size≤1000-20+f*0+(20-f)→∀k,f<k→spec_l16Digits.l0 k (n:Int) acc=some (dgF f n++acc)
 |0,n,_,_,h0,hn,_,_,_,_=>by simp at hn;omega
 |f+1,n,acc,hf,h0,hn,hb,ha,k,hk=>by
  obtain ⟨k,rfl⟩: ∃m,k=m+1:=⟨k-1,by omega⟩
  have hd:Int.tdiv (n:Int) 10=((n / 10:Nat):Int):=by rw [Int.tdiv_eq_ediv_of_nonneg (by omega)];omega
  have hm:Int.tmod (n:Int) 10=((n % 10:Nat):Int):=by rw [Int.tmod_eq_emod_of_nonneg (by omega)];omega
  simp only [spec_l16Digits.l0,dgF]
  rw [if_pos (by omega),hd,hm,Option.bind_some,str_digit (n % 10) (by omega),if_pos (by show 1+_≤_;omega),wrap_small (by omega) (by omega)]
  by_cases h:n<10
  ·rw [if_pos h,show n / 10=0 by omega,show n % 10=n by omega]
   obtain ⟨k,rfl⟩: ∃m,k=m+1:=⟨k-1,by omega⟩
   simp only [spec_l16Digits.l0]
   rw [if_neg (by omega)]
  ·have hp:n / 10<10 ^ f:=by rw [Nat.pow_succ] at hn;omega
   rw [if_neg h,l16Digits_l f (n / 10) _ (by omega) (by omega) hp (by omega) (by rw [ByteArray.size_append];show 1+_≤_;omega) k (by omega),ByteArray.append_assoc]
theorem l16Digits_eq (n:Int) (h0:0≤n) (hb:n<9223372036854775808) (k:Nat) (hk:20<k):spec_l16Digits.f k n=some (dg n.toNat):=by
 unfold spec_l16Digits.f
 by_cases h:n≤0
 ·have:n=0:=by omega
  subst this;rw [if_pos h];rfl
 ·rw [if_neg h]
  have h2:=l16Digits_l 20 n.toNat ⟨#[]⟩ (by omega) (by omega) (by omega) (by omega) (by show 0≤_;omega) k hk
  rw [Int.toNat_of_nonneg h0] at h2
  have e:dgF 20 n.toNat++(⟨#[]⟩:ByteArray)=dgF 20 n.toNat:=ByteArray.append_empty
  rw [h2,e];rfl
def signText (n:Int):ByteArray:=if n<0 then ⟨#[45]⟩ else dg n.toNat
theorem signText_size (n:Int):(signText n).size≤20:=by
 unfold signText
 by_cases h:n<0
 ·rw [if_pos h];show 1≤20;omega
 ·rw [if_neg h];exact dg_size _
theorem l18Num_eq (n:Int) (hb:n<9223372036854775808) (k:Nat) (hk:20<k):spec_l18Num.f k n=some (signText n):=by
 unfold spec_l18Num.f signText
 by_cases h:n<0
 ·rw [if_pos h,if_pos h]
 ·rw [if_neg h,if_neg h,l16Digits_eq n (by omega) hb k hk];rfl
theorem signs_eq (l:List Int) (hl:l.length≤2097152) (hx: ∀x∈l,x<9223372036854775808) (k:Nat) (hk:l.length+60<k):impl_signs.f k l=some (l.map signText):=by
 unfold impl_signs.f
 have h:=for_st l.length (fun k' i (s:List ByteArray)=>impl_signs.l0 (k'+50) s l (l.length:Int) (i:Int)) (fun i=>(l.map signText).take i) (l.map signText) ?_ ?_ (k-50) 0 (Nat.zero_le _) (by omega)
 ·rw [show k-50+50=k by omega] at h;simpa using h
 ·intro k' i hi
  have hb:=hx _ (rd_mem l i hi)
  have e:(l.map signText).take (i+1)=(l.map signText).take i++[signText (rd l (i:Int))]:=by
   rw [List.take_succ_eq_append_getElem (by simpa using hi),rd_nat l i hi];simp
  rw [show k'+1+50=(k'+50)+1 by omega,impl_signs.l0,if_pos (by omega),if_pos (by omega),if_pos (by omega),wrap_succ (by omega),e]
  by_cases c:rd l (i:Int)≥0
  ·rw [if_pos c,digits_eq _ c hb _ (by omega),Option.bind_some,if_pos (by rw [List.length_take];simp;omega)]
   unfold signText;rw [if_neg (by omega)]
  ·rw [if_neg c,if_pos (by rw [List.length_take];simp;omega)]
   unfold signText;rw [if_pos (by omega)]
 ·intro k'
  rw [show k'+1+50=(k'+50)+1 by omega,impl_signs.l0,if_neg (by omega)]
  rw [List.take_of_length_le (by simp)]
theorem joinB_one (x s:ByteArray):joinB [x] s=x:=by
 apply ByteArray.ext
 simp [joinB,Lib.join_one]
theorem joinB_more (x y s:ByteArray) (r:List ByteArray):joinB (x :: y :: r) s=(x++s)++joinB (y :: r) s:=by
 apply ByteArray.ext
 simp [joinB,Lib.join,List.intercalate,ByteArray.data_append]
theorem joinSign_size (s:ByteArray) (h:s.size=1): ∀l:List Int,(joinB (l.map signText) s).size≤21*l.length
 |[]=>by show (joinB [] s).size≤0;exact Nat.le_refl 0
 |[a]=>by show (joinB [signText a] s).size≤21;rw [joinB_one];have:=signText_size a;omega
 |a :: b :: l=>by
  have h1:=joinSign_size s h (b :: l);have h2:=signText_size a
  rw [List.map_cons,List.map_cons] at*;rw [joinB_more,ByteArray.size_append,ByteArray.size_append]
  simp only [List.length_cons] at h1 ⊢
  omega
theorem joinSigns_eq (l:List Int) (s:ByteArray) (h:s.size=1) (hl:l.length≤2097152):strings_Join.f (l.map signText) s=some (joinB (l.map signText) s):=by
 unfold strings_Join.f
 have:=joinSign_size s h l
 rw [if_pos ⟨by rw [List.length_map];omega,by omega⟩]
def didT (a b c:Int):ByteArray:=joinB ([a,b,c].map signText) (⟨#[58]⟩:ByteArray)
theorem implDidText_eq (a b c:Int) (ha:a<9223372036854775808) (hb:b<9223372036854775808) (hc:c<9223372036854775808) (k:Nat) (hk:100<k):impl_DidText.f k a b c=some (didT a b c):=by
 unfold impl_DidText.f
 rw [signs_eq [a,b,c] (by simp) (by intro x hx;simp at hx;omega) k (by simp;omega),Option.bind_some,joinSigns_eq _ _ rfl (by simp)];rfl
theorem specDidText_eq (a b c:Int) (ha:a<9223372036854775808) (hb:b<9223372036854775808) (hc:c<9223372036854775808) (k:Nat) (hk:100<k):spec_DidText.f k a b c=some (didT a b c):=by
 unfold spec_DidText.f didT
 have sa:=signText_size a;have sb:=signText_size b;have sc:=signText_size c
 have s1:(⟨#[58]⟩:ByteArray).size=1:=rfl
 simp only [List.map_cons,List.map_nil,joinB_more,joinB_one]
 rw [l18Num_eq a ha k (by omega),Option.bind_some,if_pos (by omega),l18Num_eq b hb k (by omega),Option.bind_some,if_pos (by rw [ByteArray.size_append];omega),if_pos (by rw [ByteArray.size_append,ByteArray.size_append];omega),
  l18Num_eq c hc k (by omega),Option.bind_some,if_pos (by simp only [ByteArray.size_append];omega)]
 simp only [ByteArray.append_assoc]
theorem implHartOk_eq (regs:List Int) (pc st:Int) (hl:regs.length≤2097152) (k:Nat) (hk:regs.length<k):impl_HartOk.f k regs pc st=some (hartB regs pc st):=by
 unfold impl_HartOk.f hartB
 simp only [wordsOk_eq regs 4 hl k hk,isCell_eq,from_eq,Option.bind_some,ite_some']
theorem specHartOk_eq (regs:List Int) (pc st:Int) (hl:regs.length≤2097152) (k:Nat) (hk:regs.length<k):spec_HartOk.f k regs pc st=some (hartB regs pc st):=by
 unfold spec_HartOk.f hartB
 simp only [l1Words_eq regs 4 hl k hk,l1In_eq,Option.bind_some,ite_some']
def didOf (e:S74):S37:=⟨e.f2,e.f3,e.f4⟩
def dids (l:List S74) (w:Int):Nat→List S37
 |0=>[]
 |i+1=>if (rd_T74 l (i:Int)).f0=w∧(rd_T74 l (i:Int)).f2≥0 then dids l w i++[didOf (rd_T74 l (i:Int))] else dids l w i
theorem dids_len (l:List S74) (w:Int): ∀i,(dids l w i).length≤i
 |0=>Nat.le_refl _
 |i+1=>by
  have:=dids_len l w i
  unfold dids;split
  ·rw [List.length_append];simp;omega
  ·omega
def byTo (l:List S74) (n i:Nat):List (List S37):=(List.range n).map fun (w:Nat)=>dids l (w:Int) i
theorem byTo_len (l:List S74) (n i:Nat):(byTo l n i).length=n:=by simp [byTo]
theorem byTo_get (l:List S74) (n i w:Nat) (h:w<n):(byTo l n i)[w]'(by rw [byTo_len];exact h)=dids l (w:Int) i:=by simp [byTo]
theorem byTo_mem (l:List S74) (n i:Nat): ∀h∈byTo l n i,h.length≤i:=by
 intro h hh
 obtain ⟨w,_,rfl⟩:=List.mem_map.1 hh
 exact dids_len _ _ _
def byV (n:Int) (l:List S74):List (List S37):=if 1≤n∧n≤8 then byTo l n.toNat l.length else []
theorem byTo_same (l:List S74) (n i:Nat) (h: ∀w:Nat,w<n→¬((rd_T74 l (i:Int)).f0=(w:Int)∧(rd_T74 l (i:Int)).f2≥0)):byTo l n (i+1)=byTo l n i:=by
 unfold byTo
 refine List.map_congr_left (fun w hw=>?_)
 rw [dids,if_neg (h w (List.mem_range.1 hw))]
theorem byTo_set (l:List S74) (n i w:Nat) (hw:w<n) (h:(rd_T74 l (i:Int)).f0=(w:Int)) (h2:(rd_T74 l (i:Int)).f2≥0):
  (byTo l n i).set w (dids l (w:Int) i++[didOf (rd_T74 l (i:Int))])=byTo l n (i+1):=by
 refine List.ext_getElem (by simp [byTo_len]) (fun j h3 h4=>?_)
 rw [byTo_len] at h4
 rw [List.getElem_set,byTo_get l n (i+1) j h4]
 by_cases e:w=j
 ·subst e;rw [if_pos rfl,dids,if_pos ⟨h,h2⟩]
 ·rw [if_neg e,byTo_get l n i j h4,dids,if_neg (fun q=>by have:=q.1;omega)]
theorem rdL (l:List (List S37)) (i:Nat) (h:i<l.length):rd_L7 l (i:Int)=l[i]:=by
 unfold rd_L7;simp [List.getD,h]
theorem implByHart_eq (n:Int) (l:List S74) (hl:l.length≤1048576) (k:Nat) (hk:4200000<k):impl_ByHart.f k n l=some (byV n l):=by
 unfold impl_ByHart.f byV
 rw [from_eq,Option.bind_some]
 by_cases hn:1≤n∧n≤8
 ·rw [decide_eq_true hn,if_pos rfl,if_pos (by omega),if_pos (by omega),if_pos hn]
  have h:=for_st l.length (fun k' i (s:List (List S37))=>impl_ByHart.l0 k' n s l (l.length:Int) (i:Int)) (fun i=>byTo l n.toNat i) (byTo l n.toNat l.length) ?_ ?_ k 0 (Nat.zero_le _) (by omega)
  ·have e:byTo l n.toNat 0=List.replicate n.toNat []:=by
    unfold byTo
    refine List.ext_getElem (by simp) (fun j h1 h2=>by simp [dids])
   rw [←e];exact h
  ·intro k' i hi
   rw [impl_ByHart.l0,if_pos (by omega),if_pos (by omega),if_pos (by omega),wrap_small (x:=n-1) (by omega) (by omega),from_eq,Option.bind_some,wrap_succ (by omega)]
   by_cases a:(rd_T74 l (i:Int)).f2≥0
   ·rw [if_pos a]
    by_cases b:0≤(rd_T74 l (i:Int)).f0∧(rd_T74 l (i:Int)).f0≤n-1
    ·obtain ⟨w,hw⟩: ∃w:Nat,(rd_T74 l (i:Int)).f0=(w:Int):=⟨_,(Int.toNat_of_nonneg b.1).symm⟩
     rw [decide_eq_true b,if_pos rfl]
     rw [hw] at b ⊢
     have hwn:w<n.toNat:=by omega
     have hd:=dids_len l (w:Int) i
     rw [if_pos b.1,if_pos (by rw [byTo_len];omega),rdL _ w (by rw [byTo_len];exact hwn),byTo_get l _ i w hwn,if_pos (by omega),Int.toNat_natCast]
     have:=byTo_set l n.toNat i w hwn hw a
     unfold didOf at this
     rw [this]
    ·rw [decide_eq_false b,if_neg (by simp),byTo_same l _ i (fun w hw q=>b (by have:=q.1;omega))]
   ·rw [if_neg a,byTo_same l _ i (fun w hw q=>a q.2)]
  ·intro k'
   rw [impl_ByHart.l0,if_neg (by omega)]
 ·rw [decide_eq_false hn,if_neg (by simp),if_neg hn]
theorem specBy_l1 (n:Int) (l:List S74) (hl:l.length≤1048576) (w:Nat) (hw:w<8) (out:List (List S37)) (ho:out.length≤8): ∀(d i k:Nat),i+d=l.length→
  spec_ByHart.l1 (k+d+1) n l out (w:Int) (dids l (w:Int) i) (i:Int)=spec_ByHart.l0 k n l (out++[dids l (w:Int) l.length]) ((w+1:Nat):Int)
 |0,i,k,hi=>by
  have e:i=l.length:=by omega
  rw [show k+0+1=k+1 from rfl,spec_ByHart.l1,if_neg (by omega),if_pos (by omega),wrap_succ (by omega),e]
 |d+1,i,k,hi=>by
  have ih:=specBy_l1 n l hl w hw out ho d (i+1) k (by omega)
  have hd:=dids_len l (w:Int) i
  rw [show k+(d+1)+1=(k+d+1)+1 by omega,spec_ByHart.l1,if_pos (by omega),if_pos (by omega),wrap_succ (by omega)]
  rw [dids] at ih
  by_cases a:(rd_T74 l (i:Int)).f0=(w:Int)
  ·rw [if_pos a]
   by_cases b:(rd_T74 l (i:Int)).f2≥0
   ·rw [if_pos b,if_pos (by omega)]
    rw [if_pos ⟨a,b⟩] at ih
    exact ih
   ·rw [if_neg b];rw [if_neg (fun q=>b q.2)] at ih;exact ih
  ·rw [if_neg a];rw [if_neg (fun q=>a q.1)] at ih;exact ih
theorem specBy_l0 (n:Int) (l:List S74) (hl:l.length≤1048576) (hn:1≤n∧n≤8): ∀(d w k:Nat),w+d=n.toNat→d*(l.length+3)+5<k→
  spec_ByHart.l0 k n l (byTo l w l.length) (w:Int)=some (byTo l n.toNat l.length)
 |0,w,k,hw,hk=>by
  obtain ⟨k,rfl⟩: ∃m,k=m+2:=⟨k-2,by omega⟩
  have e:w=n.toNat:=by omega
  rw [spec_ByHart.l0,if_neg (by omega),spec_ByHart.j1,if_neg (by simp),e]
 |d+1,w,k,hw,hk=>by
  have hk':d*(l.length+3)+(l.length+3)+5<k:=by rw [Nat.add_mul] at hk;omega
  obtain ⟨k,rfl⟩: ∃m,k=(m+l.length+1)+1+1:=⟨k-l.length-3,by omega⟩
  rw [spec_ByHart.l0,if_pos (by omega),l1In_eq,decide_eq_true hn,Option.bind_some,spec_ByHart.j1,if_pos rfl]
  have h:=specBy_l1 n l hl w (by omega) (byTo l w l.length) (by rw [byTo_len];omega) l.length 0 k (by omega)
  have h':spec_ByHart.l1 (k+l.length+1) n l (byTo l w l.length) (w:Int) [] 0=_:=h
  have e:byTo l w l.length++[dids l (w:Int) l.length]=byTo l (w+1) l.length:=by unfold byTo;rw [List.range_succ,List.map_append];rfl
  rw [h',e]
  exact specBy_l0 n l hl hn d (w+1) k (by omega) (by omega)
theorem specByHart_eq (n:Int) (l:List S74) (hl:l.length≤1048576) (k:Nat) (hk:10000000<k):spec_ByHart.f k n l=some (byV n l):=by
 unfold spec_ByHart.f byV
 by_cases hn:1≤n∧n≤8
 ·rw [if_pos hn]
  have hm:n.toNat*(l.length+3)≤8*(l.length+3):=Nat.mul_le_mul_right _ (by omega)
  exact specBy_l0 n l hl hn n.toNat 0 k (by omega) (by omega)
 ·rw [if_neg hn]
  obtain ⟨k,rfl⟩: ∃m,k=m+2:=⟨k-2,by omega⟩
  rw [spec_ByHart.l0]
  by_cases c:0<n
  ·rw [if_pos c,l1In_eq,decide_eq_false hn,Option.bind_some,spec_ByHart.j1,if_neg (by simp)]
  ·rw [if_neg c,spec_ByHart.j1,if_neg (by simp)]
theorem rdDidI (l:List S37) (i:Nat) (h:i<l.length):rd_T37 l (i:Int)=l[i]:=by
 unfold rd_T37;simp [List.getD,h]
theorem rdLI (l:List (List S37)) (i:Nat) (h:i<l.length):rd_L7 l (i:Int)=l[i]:=by
 unfold rd_L7;simp [List.getD,h]
def okD (m:List Int) (d:S37):Bool:=decide (0≤d.f0∧d.f0≤23)&&!(decide (d.f1≥0)&&(d.f1 != rd m d.f0))
def putD (m:List Int) (d:S37):List Int:=if d.f2≥0 then m.set d.f0.toNat d.f2 else m
theorem putD_length (m:List Int) (d:S37):(putD m d).length=m.length:=by unfold putD;split<;>simp
def someB:Nat→List Int→List (List S37)→Bool
 |0,_,_=>true
 |n+1,m,xs=>(List.range' 0 xs.length).any fun i=>match xs.getD i [] with
  |[]=>false
  |d :: t=>okD m d&&someB n (putD m d) (xs.set i t)
def tryB (n:Nat) (m:List Int) (xs:List (List S37)) (i:Nat):Bool:=match xs.getD i [] with
 |[]=>false
 |d :: t=>okD m d&&someB n (putD m d) (xs.set i t)
theorem someB_succ (n:Nat) (m:List Int) (xs:List (List S37)):someB (n+1) m xs=(List.range' 0 xs.length).any (tryB n m xs):=by
 rw [someB];rfl
theorem tryB_nil {n:Nat} {m:List Int} {xs:List (List S37)} {i:Nat} (h:xs.getD i []=[]):tryB n m xs i=false:=by unfold tryB;rw [h]
theorem tryB_cons {n:Nat} {m:List Int} {xs:List (List S37)} {i:Nat} {d:S37} {t:List S37} (h:xs.getD i []=d :: t):tryB n m xs i=(okD m d&&someB n (putD m d) (xs.set i t)):=by unfold tryB;rw [h]
def restL (ls:List (List S37)) (at_:List Int):List (List S37):=(List.range ls.length).map fun i=>(ls.getD i []).drop (at_.getD i 0).toNat
theorem restL_length (ls:List (List S37)) (at_:List Int):(restL ls at_).length=ls.length:=by simp [restL]
theorem restL_get (ls:List (List S37)) (at_:List Int) (i:Nat) (h:i<ls.length):(restL ls at_).getD i []=(ls[i]).drop (at_.getD i 0).toNat:=by
 simp [restL,List.getD_eq_getElem?_getD,h]
theorem restL_set (ls:List (List S37)) (at_:List Int) (i:Nat) (h:i<ls.length) (ha:at_.length=ls.length) (v:Int):restL ls (at_.set i v)=(restL ls at_).set i ((ls[i]).drop v.toNat):=by
 apply List.ext_getElem?
 intro j
 by_cases hj:j<ls.length
 ·by_cases e:i=j
  ·subst e
   rw [List.getElem?_set_self (by rw [restL_length];exact h)]
   simp [restL,h,List.getD_eq_getElem?_getD,ha]
  ·rw [List.getElem?_set_ne e]
   simp [restL,hj,List.getD_eq_getElem?_getD,e]
 ·rw [List.getElem?_eq_none (by rw [restL_length];omega),List.getElem?_eq_none (by rw [List.length_set,restL_length];omega)]
theorem set_back (m:List Int) (a:Nat) (h:a<m.length) (v:Int):(m.set a v).set a (rd m (a:Int))=m:=by
 rw [List.set_set,rd_nat _ _ h,List.set_getElem_self]
theorem range'_any (i d:Nat) (f:Nat→Bool):(List.range' i (d+1)).any f=(f i||(List.range' (i+1) d).any f):=by
 rw [List.range'_succ,List.any_cons]
theorem specGo_j1 {k:Nat} {m at_:List Int} {ls:List (List S37)} {n x9:Int} (d:S37) (hm:m.length=24):((spec_l1In.f d.f0 0 23).bind fun t111=>(if t111=true then (if d.f1≥0 then (if 0≤d.f0 then (if d.f0<(m.length:Int) then (spec_l21Go.j1 k m ls at_ n x9 (d.f1 != (rd m d.f0)) d.f0 d.f1 d.f2) else (none)) else (none)) else (spec_l21Go.j1 k m ls at_ n x9 false d.f0 d.f1 d.f2)) else (spec_l21Go.j1 k m ls at_ n x9 true d.f0 d.f1 d.f2)))=spec_l21Go.j1 k m ls at_ n x9 (!okD m d) d.f0 d.f1 d.f2:=by
 rw [l1In_eq,Option.bind_some]
 unfold okD
 by_cases h:0≤d.f0∧d.f0≤23
 ·rw [decide_eq_true (show 0≤d.f0∧d.f0≤23 from h),if_pos rfl]
  by_cases h1:d.f1≥0
  ·rw [if_pos h1,if_pos h.1,if_pos (by omega),decide_eq_true h1];simp
  ·rw [if_neg h1,decide_eq_false h1];simp
 ·rw [decide_eq_false (show ¬(0≤d.f0∧d.f0≤23) from h),if_neg (by simp)];simp
theorem specGo (ls:List (List S37)) (hl:ls.length≤8) (hx: ∀x∈ls,x.length≤1048576): ∀(n:Nat),n≤12→∀(m at_:List Int),m.length=24→at_.length=ls.length→(∀i:Nat,i<ls.length→0≤rd at_ (i:Int))→
  ∃p:List Int×List Int,(someB n m (restL ls at_)=false→p=(m,at_))∧∀k,40*(n+1)<k→spec_l21Go.f k m ls at_ (n:Int)=some (someB n m (restL ls at_),p.1,p.2)
 |0,_,m,at_,hm,ha,h0=>by
  refine ⟨(m,at_),fun _=>rfl,fun k hk=>?_⟩
  obtain ⟨k,rfl⟩: ∃m,k=m+1:=⟨k-1,by omega⟩
  rw [spec_l21Go.f,if_pos (show ((0:Nat):Int)=0 from rfl)];rfl
 |n+1,hn,m,at_,hm,ha,h0=>by
  have ih:=specGo ls hl hx n (by omega)
  have loop: ∀(d i:Nat),i+d=ls.length→∃p:List Int×List Int,((List.range' i d).any (tryB n m (restL ls at_))=false→p=(m,at_))∧∀k,40*(n+1)+3*d+3<k→spec_l21Go.l0 k m ls at_ ((n+1:Nat):Int) (i:Int)=some ((List.range' i d).any (tryB n m (restL ls at_)),p.1,p.2):=by
   intro d
   induction d with
   |zero=>
    intro i hi
    refine ⟨(m,at_),fun _=>rfl,fun k hk=>?_⟩
    obtain ⟨k,rfl⟩: ∃m,k=m+1:=⟨k-1,by omega⟩
    rw [spec_l21Go.l0,if_neg (by omega)];rfl
   |succ d ihd=>
    intro i hi
    obtain ⟨p1,hp1,e1⟩:=ihd (i+1) (by omega)
    have hil:i<ls.length:=by omega
    have hg:=restL_get ls at_ i hil
    have hai:=h0 i hil
    have er:rd at_ (i:Int)=at_.getD i 0:=by rw [rd_nat _ _ (by omega)];simp [List.getD_eq_getElem?_getD,show i<at_.length by omega]
    have hxi:=hx _ (List.getElem_mem hil)
    by_cases hc:rd at_ (i:Int)≥((ls[i]).length:Int)
    ·have hz:tryB n m (restL ls at_) i=false:=tryB_nil (by rw [hg,List.drop_eq_nil_of_le (by rw [←er];omega)])
     refine ⟨p1,fun h=>hp1 (by rw [range'_any,hz,Bool.false_or] at h;exact h),fun k hk=>?_⟩
     obtain ⟨k,rfl⟩: ∃m,k=m+1:=⟨k-1,by omega⟩
     rw [spec_l21Go.l0,if_pos (by omega),if_pos (by omega),if_pos (by omega),rdLI ls i hil,if_pos hc,wrap_succ (by omega),e1 k (by omega),range'_any,hz,Bool.false_or]
    ·obtain ⟨a,haa⟩:=Int.eq_ofNat_of_zero_le hai
     have hal:a<(ls[i]).length:=by omega
     have hcons:(restL ls at_).getD i []=(ls[i])[a] :: (ls[i]).drop (a+1):=by
      rw [hg,←er,haa,Int.toNat_natCast,List.drop_eq_getElem_cons hal]
     have hset:restL ls (at_.set i ((a:Int)+1))=(restL ls at_).set i ((ls[i]).drop (a+1)):=by
      rw [restL_set ls at_ i hil ha];congr 1
     have ht:=tryB_cons (n:=n) (m:=m) hcons
     obtain ⟨p2,hp2,e2⟩:=ih (putD m (ls[i])[a]) (at_.set i ((a:Int)+1)) (by rw [putD_length];exact hm) (by rw [List.length_set];exact ha) (fun j hj=>by
      by_cases e:i=j
      ·subst e;rw [rd_nat _ _ (by rw [List.length_set];omega),List.getElem_set_self];omega
      ·have:=h0 j hj;rw [rd_nat _ _ (by omega)] at this;rw [rd_nat _ _ (by rw [List.length_set];omega),List.getElem_set_ne e];exact this)
     rw [hset] at hp2 e2
     have hstep: ∀k,spec_l21Go.l0 (k+1) m ls at_ ((n+1:Nat):Int) (i:Int)=spec_l21Go.j1 k m ls at_ ((n+1:Nat):Int) (i:Int) (!okD m (ls[i])[a]) (ls[i])[a].f0 (ls[i])[a].f1 (ls[i])[a].f2:=by
      intro k
      rw [spec_l21Go.l0,if_pos (by omega),if_pos (by omega),if_pos (by omega),rdLI ls i hil,if_neg hc,if_pos hai,if_pos (by omega),haa,rdDidI _ a hal,specGo_j1 _ hm]
     by_cases hok:okD m (ls[i])[a]=true
     ·have hf:0≤(ls[i])[a].f0∧(ls[i])[a].f0≤23:=by unfold okD at hok;rw [Bool.and_eq_true] at hok;exact of_decide_eq_true hok.1
      obtain ⟨b,hb⟩:=Int.eq_ofNat_of_zero_le hf.1
      have hput: ∀k,spec_l21Go.j1 (k+1) m ls at_ ((n+1:Nat):Int) (i:Int) false (ls[i])[a].f0 (ls[i])[a].f1 (ls[i])[a].f2=(spec_l21Go.f k (putD m (ls[i])[a]) ls (at_.set i ((a:Int)+1)) (n:Int)).bind fun bt117=>(if bt117.1=true then (some (true,bt117.2.1,bt117.2.2)) else (spec_l21Go.l0 k (bt117.2.1.set ((ls[i])[a].f0:Int).toNat (rd m (ls[i])[a].f0)) ls (bt117.2.2.set (i:Int).toNat (wrap64 ((rd bt117.2.2 (i:Int))-1))) ((n+1:Nat):Int) (wrap64 ((i:Int)+1)))):=by
       intro k
       have ew:wrap64 (rd at_ (i:Int)+1)=(a:Int)+1:=by rw [haa];exact wrap_small (by omega) (by omega)
       have ew2:wrap64 (((n+1:Nat):Int)-1)=(n:Int):=by rw [wrap_small (by omega) (by omega)];omega
       rw [spec_l21Go.j1,if_neg (by simp),if_pos hf.1,if_pos (by omega)]
       unfold putD
       by_cases h2:(ls[i])[a].f2≥0
       ·rw [if_pos h2,if_pos (by omega),if_pos (by omega),ew,ew2,if_pos h2,Int.toNat_natCast]
       ·rw [if_neg h2,if_pos (by omega),if_pos (by omega),ew,ew2,if_neg h2,Int.toNat_natCast]
      by_cases hs:someB n (putD m (ls[i])[a]) ((restL ls at_).set i ((ls[i]).drop (a+1)))=true
      ·have htt:tryB n m (restL ls at_) i=true:=by rw [ht,hok,hs];rfl
       refine ⟨p2,fun h=>by rw [range'_any,htt] at h;simp at h,fun k hk=>?_⟩
       obtain ⟨k,rfl⟩: ∃m,k=m+1+1:=⟨k-2,by omega⟩
       rw [hstep,hok,Bool.not_true,hput,e2 k (by omega),Option.bind_some,if_pos hs,range'_any,htt,Bool.true_or]
      ·have hs':=Bool.eq_false_iff.2 hs
       have htt:tryB n m (restL ls at_) i=false:=by rw [ht,hok,hs'];rfl
       obtain rfl:=hp2 hs'
       refine ⟨p1,fun h=>hp1 (by rw [range'_any,htt,Bool.false_or] at h;exact h),fun k hk=>?_⟩
       obtain ⟨k,rfl⟩: ∃m,k=m+1+1:=⟨k-2,by omega⟩
       have eb1:(putD m (ls[i])[a]).set ((ls[i])[a].f0:Int).toNat (rd m (ls[i])[a].f0)=m:=by
        unfold putD
        rw [hb,Int.toNat_natCast]
        by_cases h2:(ls[i])[a].f2≥0
        ·rw [if_pos h2,set_back _ _ (by omega)]
        ·rw [if_neg h2];have:=set_back m b (by omega) 0;rw [List.set_set] at this;exact this
       have eb2:(at_.set i ((a:Int)+1)).set (i:Int).toNat (wrap64 ((rd (at_.set i ((a:Int)+1)) (i:Int))-1))=at_:=by
        rw [rd_nat _ _ (by rw [List.length_set];omega),List.getElem_set_self,wrap_small (by omega) (by omega),show (a:Int)+1-1=rd at_ (i:Int) by omega,Int.toNat_natCast,set_back _ _ (by omega)]
       rw [hstep,hok,Bool.not_true,hput,e2 k (by omega),Option.bind_some,if_neg hs]
       dsimp only
       rw [eb1,eb2,wrap_succ (by omega),e1 k (by omega),range'_any,htt,Bool.false_or]
     ·have hok':=Bool.eq_false_iff.2 hok
      have htt:tryB n m (restL ls at_) i=false:=by rw [ht,hok'];rfl
      refine ⟨p1,fun h=>hp1 (by rw [range'_any,htt,Bool.false_or] at h;exact h),fun k hk=>?_⟩
      obtain ⟨k,rfl⟩: ∃m,k=m+1+1:=⟨k-2,by omega⟩
      rw [hstep,hok',Bool.not_false,spec_l21Go.j1,if_pos rfl,wrap_succ (by omega),e1 k (by omega),range'_any,htt,Bool.false_or]
  obtain ⟨p,hp,e⟩:=loop ls.length 0 (by omega)
  have es:someB (n+1) m (restL ls at_)=(List.range' 0 ls.length).any (tryB n m (restL ls at_)):=by rw [someB_succ,restL_length]
  refine ⟨p,fun h=>hp (by rw [←es];exact h),fun k hk=>?_⟩
  obtain ⟨k,rfl⟩: ∃m,k=m+1:=⟨k-1,by omega⟩
  rw [spec_l21Go.f,if_neg (by omega),es]
  exact e k (by omega)
def tot (xs:List (List S37)):Nat:=(xs.map List.length).sum
theorem tot_set: ∀(xs:List (List S37)) (i:Nat) (h:i<xs.length) (d:S37) (t:List S37),xs[i]=d :: t→tot xs=tot (xs.set i t)+1
 |x :: xs,0,_,d,t,e=>by simp at e;subst e;simp [tot];omega
 |x :: xs,i+1,h,d,t,e=>by
  have:=tot_set xs i (by simpa using h) d t (by simpa using e)
  simp [tot] at this ⊢;omega
theorem tot_take: ∀(xs:List (List S37)) (i:Nat) (h:i<xs.length),tot (xs.take (i+1))=tot (xs.take i)+(xs[i]).length
 |x :: xs,0,_=>by simp [tot]
 |x :: xs,i+1,h=>by
  have:=tot_take xs i (by simpa using h)
  simp [tot] at this ⊢;omega
theorem tot_take_le: ∀(xs:List (List S37)) (i:Nat),(∀x∈xs,x.length≤1048576)→tot (xs.take i)≤i*1048576
 |[],i,_=>by simp [tot]
 |x :: xs,0,_=>by simp [tot]
 |x :: xs,i+1,h=>by
  have:=tot_take_le xs i (fun y hy=>h y (List.mem_cons_of_mem _ hy))
  have h1:=h x (List.mem_cons_self ..)
  simp [tot] at this ⊢;omega
theorem tot_zero: ∀(xs:List (List S37)),tot xs=0→∀x∈xs,x=[]
 |x :: xs,h,y,hy=>by
  have h':x.length+tot xs=0:=by simpa [tot] using h
  rcases List.mem_cons.1 hy with rfl|hy
  ·exact List.eq_nil_of_length_eq_zero (by omega)
  ·exact tot_zero xs (by omega) y hy
theorem tot_nil: ∀(xs:List (List S37)),(∀x∈xs,x=[])→tot xs=0
 |[],_=>rfl
 |x :: xs,h=>by
  have h1:=h x (List.mem_cons_self ..)
  have h2:=tot_nil xs (fun y hy=>h y (List.mem_cons_of_mem _ hy))
  subst h1;simp [tot] at h2 ⊢;exact h2
theorem implSome_j1 {k:Nat} {m:List Int} {ls:List (List S37)} {x7:List S37} {x11:List (List S37)} {n x9:Int} (d:S37) (hm:m.length=24):((impl_isCell.f d.f0).bind fun t180=>(if t180=true then (if d.f1≥0 then (if 0≤d.f0 then (if d.f0<(m.length:Int) then (impl_some.j1 k m ls true x7 x11 n x9 (d.f1 != (rd m d.f0)) d.f0 d.f1 d.f2) else (none)) else (none)) else (impl_some.j1 k m ls true x7 x11 n x9 false d.f0 d.f1 d.f2)) else (impl_some.j1 k m ls true x7 x11 n x9 true d.f0 d.f1 d.f2)))=impl_some.j1 k m ls true x7 x11 n x9 (!okD m d) d.f0 d.f1 d.f2:=by
 unfold impl_isCell.f
 rw [from_eq,Option.bind_some,Option.bind_some]
 unfold okD
 by_cases h:0≤d.f0∧d.f0≤23
 ·rw [decide_eq_true (show 0≤d.f0∧d.f0≤23 from h),if_pos rfl]
  by_cases h1:d.f1≥0
  ·rw [if_pos h1,if_pos h.1,if_pos (by omega),decide_eq_true h1];simp
  ·rw [if_neg h1,decide_eq_false h1];simp
 ·rw [decide_eq_false (show ¬(0≤d.f0∧d.f0≤23) from h),if_neg (by simp)];simp
def fullB (xs:List (List S37)) (i:Nat):Bool:=!(xs.getD i []).isEmpty
theorem implSome: ∀(n:Nat),n≤12→∀(m:List Int) (xs:List (List S37)),m.length=24→xs.length≤8→tot xs=n→∀k,40*(n+1)<k→impl_some.f k m xs=some (someB n m xs):=by
 intro n
 induction n using Nat.strongRecOn with
 |_ n ih=>
 intro hn m xs hm hl htot k hk
 have loop: ∀(d i:Nat) (b:Bool) (k:Nat),i+d=xs.length→40*n+3*d+3<k→impl_some.l0 k m xs b xs (xs.length:Int) (i:Int)=some ((List.range' i d).any (tryB (n-1) m xs)||!(b||(List.range' i d).any (fullB xs))):=by
  intro d
  induction d with
  |zero=>
   intro i b k hi hk
   obtain ⟨k,rfl⟩: ∃m,k=m+1:=⟨k-1,by omega⟩
   rw [impl_some.l0,if_neg (by omega)];simp
  |succ d ihd=>
   intro i b k hi hk
   have hil:i<xs.length:=by omega
   have hget:xs.getD i []=xs[i]:=by simp [List.getD_eq_getElem?_getD,hil]
   obtain ⟨k,rfl⟩: ∃m,k=m+1:=⟨k-1,by omega⟩
   rw [impl_some.l0,if_pos (by omega),if_pos (by omega),if_pos (by omega),rdLI xs i hil]
   cases hx:xs[i] with
   |nil=>
    rw [if_pos (by simp),wrap_succ (by omega),ihd (i+1) b k (by omega) (by omega),range'_any,range'_any,tryB_nil (by rw [hget,hx]),show fullB xs i=false by unfold fullB;rw [hget,hx];rfl,Bool.false_or,Bool.false_or]
   |cons d0 t=>
    have hn1:1≤n:=by have:=tot_set xs i hil d0 t hx;omega
    have hfull:fullB xs i=true:=by unfold fullB;rw [hget,hx];rfl
    have ht:=tryB_cons (n:=n-1) (m:=m) (hget.trans hx)
    have e0:rd_T37 (d0 :: t) 0=d0:=rdDidI (d0 :: t) 0 (by simp)
    rw [if_neg (by rw [List.length_cons];omega),if_pos (by rw [List.length_cons];omega),e0,implSome_j1 d0 hm]
    obtain ⟨k,rfl⟩: ∃m,k=m+1:=⟨k-1,by omega⟩
    have erest: ∀b':Bool,b'=false→some ((List.range' (i+1) d).any (tryB (n-1) m xs)||!(true||(List.range' (i+1) d).any (fullB xs)))=some ((b'||(List.range' (i+1) d).any (tryB (n-1) m xs))||!(b||(true||(List.range' (i+1) d).any (fullB xs)))):=by
     intro b' hb';subst hb';simp
    rw [range'_any,range'_any,hfull]
    by_cases hok:okD m d0=true
    ·have hf:0≤d0.f0∧d0.f0≤23:=by unfold okD at hok;rw [Bool.and_eq_true] at hok;exact of_decide_eq_true hok.1
     have hih:=ih (n-1) (by omega) (by omega) (putD m d0) (xs.set i t) (by rw [putD_length];exact hm) (by simpa using hl) (by have:=tot_set xs i hil d0 t hx;omega) k (by omega)
     have hput:impl_some.j1 (k+1) m xs true (d0 :: t) xs (xs.length:Int) (i:Int) false d0.f0 d0.f1 d0.f2=(impl_some.f k (putD m d0) (xs.set i t)).bind fun t190=>(if t190=true then (some true) else (impl_some.l0 k m xs true xs (xs.length:Int) (wrap64 ((i:Int)+1)))):=by
      rw [impl_some.j1,if_neg (by simp)]
      unfold slices_Clone_int_int.f putD
      rw [if_pos (by omega),Option.bind_some]
      by_cases h2:d0.f2≥0
      ·rw [if_pos h2,if_pos hf.1,if_pos (by omega),if_pos (by simp;omega),if_pos h2,Int.toNat_natCast];rfl
      ·rw [if_neg h2,if_pos (by simp;omega),if_neg h2,Int.toNat_natCast];rfl
     rw [hok,Bool.not_true,hput,hih,Option.bind_some,ht,hok,Bool.true_and]
     cases hs:someB (n-1) (putD m d0) (xs.set i t) with
     |true=>rw [if_pos rfl];simp
     |false=>rw [if_neg (by simp),wrap_succ (by omega),ihd (i+1) true k (by omega) (by omega),erest _ rfl]
    ·have hok':=Bool.eq_false_iff.2 hok
     rw [hok',Bool.not_false,impl_some.j1,if_pos rfl,wrap_succ (by omega),ihd (i+1) true k (by omega) (by omega),ht,hok',Bool.false_and,erest _ rfl]
 obtain ⟨k,rfl⟩: ∃m,k=m+1:=⟨k-1,by omega⟩
 rw [impl_some.f,if_pos (by omega)]
 have h:=loop xs.length 0 false k (by omega) (by omega)
 rw [show ((0:Nat):Int)=0 from rfl] at h
 rw [h]
 cases n with
 |zero=>
  have hz:=tot_zero xs htot
  have hf:(List.range' 0 xs.length).any (fullB xs)=false:=by
   rw [List.any_eq_false]
   intro i hi
   rw [List.mem_range'_1] at hi
   have hil:i<xs.length:=by omega
   unfold fullB
   rw [show xs.getD i []=xs[i] by simp [List.getD_eq_getElem?_getD,hil],hz _ (List.getElem_mem hil)];simp
  rw [hf];simp [someB]
 |succ n=>
  have hf:(List.range' 0 xs.length).any (fullB xs)=true:=by
   rcases Bool.eq_false_or_eq_true ((List.range' 0 xs.length).any (fullB xs)) with h|h
   ·exact h
   ·exfalso
    rw [List.any_eq_false] at h
    have h0:tot xs=0:=by
     have: ∀x∈xs,x=[]:=by
      intro x hx
      obtain ⟨j,hj,rfl⟩:=List.getElem_of_mem hx
      have:=h j (by rw [List.mem_range'_1];omega)
      unfold fullB at this
      rw [show xs.getD j []=xs[j] by simp [List.getD_eq_getElem?_getD,hj]] at this
      simpa using this
     exact tot_nil xs this
    omega
  rw [hf,someB_succ];simp
def seqB (m:List Int) (xs:List (List S37)):Bool:=wordsB m 24&&(decide (xs.length≤8)&&(decide (tot xs≤12)&&someB (tot xs) m xs))
theorem specSeqOk_eq (m:List Int) (xs:List (List S37)) (hm:m.length≤1048576) (hl:xs.length≤1048576) (hx: ∀x∈xs,x.length≤1048576) (k:Nat) (hk:4200000<k):spec_SeqOk.f k m xs=some (seqB m xs):=by
 unfold spec_SeqOk.f
 have hb: ∀i,i≤xs.length→tot (xs.take i)≤1099511627776:=fun i hi=>by have:=tot_take_le xs i hx;omega
 refine for_stC 2000000 xs.length (fun k i (s:Int)=>spec_SeqOk.l0 k m xs s (i:Int)) (fun i=>(tot (xs.take i):Int)) (seqB m xs) ?_ ?_ k 0 (Nat.zero_le _) (by omega)
 ·intro k i hC hi
  have hs:=tot_take xs i hi
  have h1:=hb i (by omega)
  have h2:=hb (i+1) (by omega)
  simp only [spec_SeqOk.l0]
  rw [if_pos (by omega),if_pos (by omega),rdLI xs i hi,wrap_succ (by omega),wrap_small (by omega) (by omega),hs]
  congr 1;try omega
 ·intro k hC
  have ht:tot (xs.take xs.length)=tot xs:=by rw [List.take_length]
  simp only [spec_SeqOk.l0]
  rw [if_neg (by omega),l1Words_eq m 24 (by omega) k (by omega),Option.bind_some,ht]
  unfold seqB
  cases hw:wordsB m 24 with
  |false=>rw [if_neg (by simp)];rfl
  |true=>
   have hm24:=wordsB_24 hw
   rw [if_pos rfl,Bool.true_and]
   by_cases h8:xs.length≤8
   ·rw [if_neg (by omega),decide_eq_true h8,Bool.true_and]
    by_cases h12:tot xs≤12
    ·rw [if_neg (by omega),decide_eq_true h12,Bool.true_and,Option.bind_some,if_pos (by simp;omega),if_pos (by omega),if_pos (by simp;omega),Int.toNat_natCast]
     obtain ⟨p,_,e⟩:=specGo xs h8 hx (tot xs) h12 m (List.replicate xs.length 0) hm24 (by simp) (fun i hi=>by rw [rd_nat _ _ (by simpa using hi)];simp)
     have er:restL xs (List.replicate xs.length 0)=xs:=by
      apply List.ext_getElem
      ·rw [restL_length]
      ·intro j h1 h2
       have h3:=restL_get xs (List.replicate xs.length 0) j h2
       rw [List.getD_eq_getElem?_getD,List.getElem?_eq_getElem h1,Option.getD_some] at h3
       rw [h3];simp [List.getD_eq_getElem?_getD,h2]
     rw [er] at e
     rw [List.nil_append,e k (by omega),Option.bind_some]
    ·rw [if_pos (by omega),decide_eq_false h12,Bool.false_and]
   ·rw [if_pos (by omega),decide_eq_false h8,Bool.false_and]
theorem implSeqOk_eq (m:List Int) (xs:List (List S37)) (hm:m.length≤1048576) (hl:xs.length≤1048576) (hx: ∀x∈xs,x.length≤1048576) (k:Nat) (hk:4200000<k):impl_SeqOk.f k m xs=some (seqB m xs):=by
 unfold impl_SeqOk.f
 have hb: ∀i,i≤xs.length→tot (xs.take i)≤1099511627776:=fun i hi=>by have:=tot_take_le xs i hx;omega
 refine for_stC 2000000 xs.length (fun k i (s:Int)=>impl_SeqOk.l0 k m xs s xs (xs.length:Int) (i:Int)) (fun i=>(tot (xs.take i):Int)) (seqB m xs) ?_ ?_ k 0 (Nat.zero_le _) (by omega)
 ·intro k i hC hi
  have hs:=tot_take xs i hi
  have h1:=hb i (by omega)
  have h2:=hb (i+1) (by omega)
  simp only [impl_SeqOk.l0]
  rw [if_pos (by omega),if_pos (by omega),if_pos (by omega),rdLI xs i hi,wrap_succ (by omega),wrap_small (by omega) (by omega),hs]
  congr 1;try omega
 ·intro k hC
  have ht:tot (xs.take xs.length)=tot xs:=by rw [List.take_length]
  simp only [impl_SeqOk.l0]
  rw [if_neg (by omega),memOk_eq m (by omega) k (by omega),Option.bind_some,ht]
  unfold seqB
  cases hw:wordsB m 24 with
  |false=>rw [if_neg (by simp)];rfl
  |true=>
   have hm24:=wordsB_24 hw
   rw [if_pos rfl,Bool.true_and]
   by_cases h8:xs.length≤8
   ·rw [if_pos (by omega),decide_eq_true h8,Bool.true_and]
    by_cases h12:tot xs≤12
    ·rw [if_pos (by omega),decide_eq_true h12,Bool.true_and,implSome (tot xs) h12 m xs hm24 h8 rfl k (by omega),Option.bind_some]
    ·rw [if_neg (by omega),decide_eq_false h12,Bool.false_and]
   ·rw [if_neg (by omega),decide_eq_false h8,Bool.false_and]
theorem and_range (x:Int) (m:Nat) (hm:m<2 ^ 62):0≤Go.bits .and .i64 x (m:Int)∧Go.bits .and .i64 x (m:Int)≤(m:Int):=by
 have h:(BitVec.ofInt 64 x&&& BitVec.ofInt 64 (m:Int)).toNat≤m:=by
  rw [BitVec.toNat_and]
  refine Nat.le_trans Nat.and_le_right ?_
  rw [BitVec.ofInt_natCast,BitVec.toNat_ofNat]
  exact Nat.mod_le _ _
 have e:Go.bits .and .i64 x (m:Int)=(((BitVec.ofInt 64 x&&& BitVec.ofInt 64 (m:Int)).toNat:Nat):Int):=by
  show IntKind.i64.wrap (((BitVec.ofInt 64 x&&& BitVec.ofInt 64 (m:Int)).toNat:Nat):Int)=_
  exact wraps_i64 _ (by omega) (by omega)
 rw [e];omega
def curOk (c:List Int) (i:Int):Prop:=c.length≤1048576∧0≤i∧i≤(c.length:Int)
theorem l1New_ex (c:List Int) (hc:c.length≤1048576) (k:Nat) (hk:4010<k): ∃i s,spec_l1New.f k c=some (c,i,s)∧curOk c i:=by
 unfold spec_l1New.f
 have h: ∀(k j:Nat) (s:Int),j≤4000→4000<j+k→∃i s',spec_l1New.l0 k c s (j:Int)=some (c,i,s')∧curOk c i:=by
  intro k
  induction k with
  |zero=>intro j s h1 h2;omega
  |succ k ih=>
   intro j s h1 h2
   rw [spec_l1New.l0]
   by_cases h:(j:Int)<(c.length:Int)
   ·rw [if_pos h]
    by_cases h':(j:Int)<4000
    ·rw [if_pos h',if_pos (by omega),wrap_succ (by omega)];exact ih _ _ (by omega) (by omega)
    ·rw [if_neg h'];exact ⟨_,_,rfl,hc,by omega,by omega⟩
   ·rw [if_neg h];exact ⟨_,_,rfl,hc,by omega,by omega⟩
 exact h k 0 _ (by omega) (by omega)
theorem l1Byte_ex (c:List Int) (i s:Int) (h:curOk c i): ∃b i' s',spec_l1Byte.f c i s=some (b,i',s')∧0≤b∧b≤255∧curOk c i':=by
 unfold spec_l1Byte.f
 obtain ⟨h1,h2,h3⟩:=h
 by_cases hl:i<(c.length:Int)
 ·rw [if_pos hl,if_pos h2]
  have hr:=fun x=>and_range x 255 (by decide)
  exact ⟨_,_,_,rfl,(hr _).1,(hr _).2,h1,by unfold wrap64;omega,by unfold wrap64;omega⟩
 ·rw [if_neg hl]
  have hr:=fun x=>and_range x 255 (by decide)
  exact ⟨_,_,_,rfl,(hr _).1,(hr _).2,h1,h2,h3⟩
theorem l1Below_ex (c:List Int) (i s:Int) (h:curOk c i) (n:Int) (hn:0<n) (hb:n≤4294967296): ∃v i' s',spec_l1Below.f c i s n=some (v,i',s')∧0≤v∧v<n∧curOk c i':=by
 unfold spec_l1Below.f
 rw [if_neg (by omega)]
 by_cases hs:n≤256
 ·obtain ⟨b,i1,s1,e,h0,h1,hc⟩:=l1Byte_ex c i s h
  rw [if_pos hs,e,Option.bind_some,if_neg (by omega)]
  exact ⟨_,_,_,rfl,Int.tmod_nonneg _ h0,Int.tmod_lt_of_pos _ hn,hc⟩
 ·obtain ⟨b1,i1,s1,e1,p1,q1,c1⟩:=l1Byte_ex c i s h
  obtain ⟨b2,i2,s2,e2,p2,q2,c2⟩:=l1Byte_ex c i1 s1 c1
  obtain ⟨b3,i3,s3,e3,p3,q3,c3⟩:=l1Byte_ex c i2 s2 c2
  obtain ⟨b4,i4,s4,e4,p4,q4,c4⟩:=l1Byte_ex c i3 s3 c3
  rw [if_neg hs]
  simp only [e1,e2,e3,e4,Option.bind_some]
  rw [if_neg (by omega)]
  exact ⟨_,_,_,rfl,Int.tmod_nonneg _ (by unfold wrap64;omega),Int.tmod_lt_of_pos _ hn,c4⟩
theorem l1Once_ex (c:List Int) (i s:Int) (h:curOk c i) (n:Int) (hn:0<n) (hb:n≤4294967296): ∃v i' s',spec_l1Once.f c i s n=some (v,i',s')∧curOk c i':=by
 unfold spec_l1Once.f
 obtain ⟨v,i1,s1,e,_,_,hc⟩:=l1Below_ex c i s h n hn hb
 rw [e,Option.bind_some]
 exact ⟨_,_,_,rfl,hc⟩
theorem l1PickInt_ex (c:List Int) (i s:Int) (h:curOk c i) (l:List Int) (h0:0<l.length) (h1:l.length≤1000): ∃v i' s',spec_l1PickInt.f c i s l=some (v,i',s')∧v∈l∧curOk c i':=by
 unfold spec_l1PickInt.f
 obtain ⟨v,i1,s1,e,p,q,hc⟩:=l1Below_ex c i s h (l.length:Int) (by omega) (by omega)
 rw [e,Option.bind_some,if_pos p,if_pos q]
 refine ⟨_,_,_,rfl,?_,hc⟩
 obtain ⟨j,rfl⟩: ∃j:Nat,v=(j:Int):=⟨v.toNat,by omega⟩
 exact rd_mem l j (by omega)
theorem l8Has_ex (o:Int) (h0:1≤o) (h1:o≤10): ∃v,spec_l8Has.f o=some v:=by
 unfold spec_l8Has.f
 rw [l1In_eq,decide_eq_true ⟨h0,h1⟩,Option.bind_some,if_pos rfl,Option.bind_some,if_pos (by omega),if_pos (by simp;omega)]
 exact ⟨_,rfl⟩
theorem drawIns_j1 (x:Int) (c:List Int) (i s:Int) (h:curOk c i) (o r a b n:Int) (k:Nat): ∃o' r' a' b' n' i' s',spec_l8DrawIns.j1 (k+1) x c i s o r a b n=some (o',r',a',b',n',i',s')∧curOk c i':=by
 rw [spec_l8DrawIns.j1]
 obtain ⟨v,i1,s1,e1,_,_,c1⟩:=l1Below_ex c i s h 4 (by omega) (by omega)
 obtain ⟨v2,i2,s2,e2,_,c2⟩:=l1PickInt_ex c i s h [0,1,2,4,8,9,12,20,23] (by simp) (by simp)
 obtain ⟨v3,i3,s3,e3,_,c3⟩:=l1PickInt_ex c i1 s1 c1 [0,1,2,4,8,9,12,20,23] (by simp) (by simp)
 by_cases h1:Go.bits .and .i64 x 4=0
 ·rw [if_pos h1]
  by_cases h2:Go.bits .and .i64 x 8=0
  ·rw [if_pos h2];exact ⟨_,_,_,_,_,_,_,rfl,h⟩
  ·rw [if_neg h2,e2,Option.bind_some];exact ⟨_,_,_,_,_,_,_,rfl,c2⟩
 ·rw [if_neg h1,e1,Option.bind_some]
  by_cases h2:Go.bits .and .i64 x 8=0
  ·rw [if_pos h2];exact ⟨_,_,_,_,_,_,_,rfl,c1⟩
  ·rw [if_neg h2]
   simp only [e3,Option.bind_some];exact ⟨_,_,_,_,_,_,_,rfl,c3⟩
theorem drawIns_j0 (x:Int) (c:List Int) (i s:Int) (h:curOk c i) (o r a b n:Int) (k:Nat): ∃o' r' a' b' n' i' s',spec_l8DrawIns.j0 (k+2) x c i s o r a b n=some (o',r',a',b',n',i',s')∧curOk c i':=by
 rw [spec_l8DrawIns.j0]
 obtain ⟨v,i1,s1,e1,_,_,c1⟩:=l1Below_ex c i s h 4 (by omega) (by omega)
 by_cases h1:Go.bits .and .i64 x 2=0
 ·rw [if_pos h1];exact drawIns_j1 x c i s h o r a b n k
 ·rw [if_neg h1,e1,Option.bind_some];exact drawIns_j1 x c i1 s1 c1 o r v b n k
theorem drawIns_ex (c:List Int) (i s:Int) (h:curOk c i) (k:Nat) (hk:2≤k): ∃o r a b n i' s',spec_l8DrawIns.f k c i s=some (o,r,a,b,n,i',s')∧curOk c i':=by
 obtain ⟨k,rfl⟩: ∃m,k=m+2:=⟨k-2,by omega⟩
 unfold spec_l8DrawIns.f
 obtain ⟨o,i1,s1,e1,ho,c1⟩:=l1PickInt_ex c i s h [1,1,2,3,3,4,4,5,5,5,6,6,7,8,9,10] (by simp) (by simp)
 have ho':1≤o∧o≤10:=by simp at ho;omega
 obtain ⟨x,ex⟩:=l8Has_ex o ho'.1 ho'.2
 rw [e1,Option.bind_some]
 simp only [ex,Option.bind_some]
 by_cases h1:Go.bits .and .i64 x 1=0
 ·rw [if_pos h1];exact drawIns_j0 x c i1 s1 c1 o 0 0 0 0 k
 ·obtain ⟨v,i2,s2,e2,_,_,c2⟩:=l1Below_ex c i1 s1 c1 4 (by omega) (by omega)
  rw [if_neg h1,e2,Option.bind_some];exact drawIns_j0 x c i2 s2 c2 o v 0 0 0 k
theorem implAddress_eq (n:Int):impl_address.f n=some (n % 24):=by
 unfold impl_address.f
 have b:=tmod_bd n 24 (by omega)
 rw [wrap_small (by omega) (by omega),tmod_up n 24 (by omega) (by omega)]
theorem implWrapped_eq (n:Int):impl_wrapped.f n=some (n % 65536):=by
 unfold impl_wrapped.f
 have b:=tmod_bd n 65536 (by omega)
 rw [wrap_small (x:=Int.tmod n 65536+65535) (by omega) (by omega),wrap_small (by omega) (by omega),show Int.tmod n 65536+65535+1=Int.tmod n 65536+65536 by omega,tmod_up n 65536 (by omega) (by omega)]
def opV (r:List Int) (pc st:Int) (o i a b n got:Int):List Int×Int×Int×Int:=
 if o=1 then (r.set i.toNat n,(pc+1) % 24,st,-1)
 else if o=2 then (r.set i.toNat ((rd r a+rd r b) % 65536),(pc+1) % 24,st,-1)
 else if o=10 then (r.set i.toNat ((rd r a-rd r b) % 65536),(pc+1) % 24,st,-1)
 else if o=3 then (r.set i.toNat ((rd r a+n) % 65536),(pc+1) % 24,st,-1)
 else if o=4 then (r.set i.toNat got,(pc+1) % 24,st,-1)
 else if o=5 then (r,(pc+1) % 24,st,rd r b)
 else if o=6 then (r.set i.toNat got,(pc+1) % 24,st,(got+rd r b) % 65536)
 else if o=7 then (if rd r a=0 then (r,n % 24,st,-1) else (r,(pc+1) % 24,st,-1))
 else if o=8 then (r,n % 24,st,-1)
 else if o=9 then (r,pc,1,-1)
 else (r,(pc+1) % 24,st,-1)
def workV (r:List Int) (pc st:Int) (o i a b n got:Int):List Int×Int×Int×Int:=
 if hartB r pc st=true∧st=0∧(0≤got∧got≤65535) then (if insOkB o i a b n=true then opV r pc st o i a b n got else (r,pc,2,-1)) else (r,pc,st,-1)
theorem hartB_parts {r:List Int} {p s:Int} (h:hartB r p s=true):r.length=4∧(∀x,x∈r→0≤x∧x≤65535)∧(0≤p∧p≤23)∧(0≤s∧s≤2):=by
 have l:=hartB_len h
 unfold hartB at h;rw [Bool.and_eq_true,Bool.and_eq_true] at h
 exact ⟨l,fun x hx=>wordsB_mem h.1 x hx,of_decide_eq_true h.2.1,of_decide_eq_true h.2.2⟩
theorem rd_word {r:List Int} (hw: ∀x,x∈r→0≤x∧x≤65535) (i:Int):0≤rd r i∧rd r i≤65535:=by
 unfold rd
 rw [List.getD_eq_getElem?_getD]
 cases h:r[i.toNat]? with
 |none=>simp
 |some x=>exact hw x (List.mem_of_getElem? h)
theorem implWork_j2 (k:Nat) (r:List Int) (pc st o i a b n got:Int) (hr:r.length=4) (hw: ∀x,x∈r→0≤x∧x≤65535) (hg:0≤got∧got≤65535) (hi:0≤i∧i≤3) (hn:0≤n∧n≤63):
  impl_Work.j2 (k+2) got (rd r a) (rd r b) (-1) ((pc+1) % 24) o r pc st o i a b n=some (opV r pc st o i a b n got):=by
 have wa:=rd_word hw a
 have wb:=rd_word hw b
 rw [impl_Work.j2]
 unfold opV
 rw [wrap_small (x:=rd r a+rd r b) (by omega) (by omega),wrap_small (x:=rd r a-rd r b) (by omega) (by omega),wrap_small (x:=rd r a+n) (by omega) (by omega),wrap_small (x:=got+rd r b) (by omega) (by omega)]
 simp only [implWrapped_eq,implAddress_eq,Option.bind_some]
 have h1:i<(r.length:Int):=by omega
 simp only [if_pos hi.1,if_pos h1]
 by_cases c1:o=1
 ·rw [if_pos c1,if_pos c1]
  all_goals (try rw [impl_Work.j3])
 rw [if_neg c1,if_neg c1]
 by_cases c2:o=2
 ·rw [if_pos c2,if_pos c2]
  all_goals (try rw [impl_Work.j3])
 rw [if_neg c2,if_neg c2]
 by_cases c3:o=10
 ·rw [if_pos c3,if_pos c3]
  all_goals (try rw [impl_Work.j3])
 rw [if_neg c3,if_neg c3]
 by_cases c4:o=3
 ·rw [if_pos c4,if_pos c4]
  all_goals (try rw [impl_Work.j3])
 rw [if_neg c4,if_neg c4]
 by_cases c5:o=4
 ·rw [if_pos c5,if_pos c5]
  all_goals (try rw [impl_Work.j3])
 rw [if_neg c5,if_neg c5]
 by_cases c6:o=5
 ·rw [if_pos c6,if_pos c6]
  all_goals (try rw [impl_Work.j3])
 rw [if_neg c6,if_neg c6]
 by_cases c7:o=6
 ·rw [if_pos c7,if_pos c7]
  all_goals (try rw [impl_Work.j3])
 rw [if_neg c7,if_neg c7]
 by_cases c8:o=7
 ·rw [if_pos c8,if_pos c8]
  by_cases c:rd r a=0
  ·rw [if_pos c,if_pos c]
   all_goals (try rw [impl_Work.j3])
  ·rw [if_neg c,if_neg c]
   all_goals (try rw [impl_Work.j3])
 rw [if_neg c8,if_neg c8]
 by_cases c9:o=8
 ·rw [if_pos c9,if_pos c9]
  all_goals (try rw [impl_Work.j3])
 rw [if_neg c9,if_neg c9]
 by_cases c10:o=9
 ·rw [if_pos c10,if_pos c10]
  all_goals (try rw [impl_Work.j3])
 rw [if_neg c10,if_neg c10]
 all_goals (try rw [impl_Work.j3])
theorem implWork_eq (r:List Int) (pc st o i a b n got:Int) (hl:r.length≤2097152) (k:Nat) (hk:r.length+10<k):impl_Work.f k r pc st o i a b n got=some (workV r pc st o i a b n got):=by
 obtain ⟨k,rfl⟩: ∃m,k=m+4:=⟨k-4,by omega⟩
 unfold impl_Work.f impl_copyHart.f slices_Clone_int_int.f workV
 rw [if_pos (by omega),Option.bind_some,Option.bind_some]
 simp only [implHartOk_eq r pc st (by omega) (k+4) (by omega),Option.bind_some]
 have jt:impl_Work.j0 (k+4) got true r pc st o i a b n=some (r,pc,st,-1):=by rw [impl_Work.j0,if_pos rfl]
 by_cases h:hartB r pc st=true
 ·obtain ⟨p1,p2,p3,p4⟩:=hartB_parts h
  rw [if_pos h]
  by_cases hs:st=0
  ·rw [if_pos hs,isWord_eq,Option.bind_some]
   by_cases hg:0≤got∧got≤65535
   ·rw [if_pos ⟨h,hs,hg⟩,decide_eq_true hg,Bool.not_true,impl_Work.j0,if_neg (by simp)]
    unfold impl_InsOk.f
    rw [Option.bind_some]
    by_cases hi:insOkB o i a b n=true
    ·obtain ⟨b0,b0',b1,b1',b2,b2',b3,b3',b4,b4'⟩:=insOkB_bounds hi
     rw [if_pos hi,hi,Bool.not_true,impl_Work.j1,if_neg (by simp),if_pos b2,if_pos (by omega),if_pos b3,if_pos (by omega),implAddress_eq,Option.bind_some,wrap_small (x:=pc+1) (by omega) (by omega)]
     exact implWork_j2 k r pc st o i a b n got p1 p2 hg ⟨b1,b1'⟩ ⟨b4,b4'⟩
    ·have hi':insOkB o i a b n=false:=by simpa using hi
     rw [if_neg hi,hi',Bool.not_false,impl_Work.j1,if_pos rfl]
   ·rw [if_neg (fun c=>hg c.2.2),decide_eq_false hg,Bool.not_false,jt]
  ·rw [if_neg hs,jt,if_neg (fun c=>hs c.2.1)]
 ·rw [if_neg h,jt,if_neg (fun c=>h c.1)]
def decodeB (w:Int):Bool:=decide (0≤w∧w≤65535)&&insOkB (w % 16) (w / 16 % 4) (w / 64 % 4) (w / 256 % 4) (w / 1024)
def decodeV (w:Int):Int×Int×Int×Int×Int×Bool:=if decodeB w=true then (w % 16,w / 16 % 4,w / 64 % 4,w / 256 % 4,w / 1024,true) else (0,0,0,0,0,false)
theorem implDecode_eq (w:Int):impl_Decode.f w=some (decodeV w):=by
 unfold impl_Decode.f decodeV decodeB impl_InsOk.f
 rw [isWord_eq,Option.bind_some]
 by_cases h:0≤w∧w≤65535
 ·rw [decide_eq_true h,if_pos rfl,Bool.true_and]
  have e1:Int.tmod w 16=w % 16:=tmod_pos _ _ h.1
  have e2:Int.tmod (wrap64 (Int.tdiv w 16)) 4=w / 16 % 4:=by rw [tdiv_pos _ _ h.1,wrap_small (by omega) (by omega),tmod_pos _ _ (by omega)]
  have e3:Int.tmod (wrap64 (Int.tdiv w 64)) 4=w / 64 % 4:=by rw [tdiv_pos _ _ h.1,wrap_small (by omega) (by omega),tmod_pos _ _ (by omega)]
  have e4:Int.tmod (wrap64 (Int.tdiv w 256)) 4=w / 256 % 4:=by rw [tdiv_pos _ _ h.1,wrap_small (by omega) (by omega),tmod_pos _ _ (by omega)]
  have e5:wrap64 (Int.tdiv w 1024)=w / 1024:=by rw [tdiv_pos _ _ h.1,wrap_small (by omega) (by omega)]
  rw [e1,e2,e3,e4,e5,Option.bind_some]
  by_cases c:insOkB (w % 16) (w / 16 % 4) (w / 64 % 4) (w / 256 % 4) (w / 1024)=true
  ·rw [if_pos c,if_pos c]
  ·rw [if_neg c,if_neg c]
 ·rw [decide_eq_false h,if_neg (by simp),Bool.false_and,if_neg (by simp)]
def targetV (o i a b n:Int) (r:List Int):Int:=if insOkB o i a b n=true∧(o=4∨o=5∨o=6)∧r.length=4 then wrap64 (rd r a+n) % 24 else-1
theorem implTarget_eq (o i a b n:Int) (r:List Int):impl_Target.f o i a b n r=some (targetV o i a b n r):=by
 unfold impl_Target.f targetV impl_InsOk.f impl_aims.f
 rw [Option.bind_some]
 by_cases h:insOkB o i a b n=true
 ·have hb:=insOkB_bounds h
  rw [if_pos h]
  have ha:(if o=4 then some true else if o=5 then some true else some (o == 6))=some (decide (o=4∨o=5∨o=6)):=by
   by_cases c4:o=4
   ·rw [if_pos c4,decide_eq_true (.inl c4)]
   ·rw [if_neg c4]
    by_cases c5:o=5
    ·rw [if_pos c5,decide_eq_true (.inr (.inl c5))]
    ·rw [if_neg c5];congr 1;rw [Bool.eq_iff_iff];simp [c4,c5]
  rw [ha,Option.bind_some]
  by_cases c:o=4∨o=5∨o=6
  ·rw [decide_eq_true c,if_pos rfl]
   by_cases hl:r.length=4
   ·rw [if_pos (by omega),if_pos (by omega),if_pos (by omega),implAddress_eq,Option.bind_some,if_pos ⟨h,c,hl⟩]
   ·rw [if_neg (by omega),if_neg (fun x=>hl x.2.2)]
  ·rw [decide_eq_false c,if_neg (by simp),if_neg (fun x=>c x.2.1)]
 ·rw [if_neg h,if_neg (fun x=>h x.1)]
abbrev Hh:=S72
def hB (h:Hh):Bool:=hartB h.f0 h.f1 h.f2
def gotV (m:List Int) (h:Hh):Int:=if 0≤targetV (decodeV (rd m h.f1)).1 (decodeV (rd m h.f1)).2.1 (decodeV (rd m h.f1)).2.2.1 (decodeV (rd m h.f1)).2.2.2.1 (decodeV (rd m h.f1)).2.2.2.2.1 h.f0 then rd m (targetV (decodeV (rd m h.f1)).1 (decodeV (rd m h.f1)).2.1 (decodeV (rd m h.f1)).2.2.1 (decodeV (rd m h.f1)).2.2.2.1 (decodeV (rd m h.f1)).2.2.2.2.1 h.f0) else 0
def tgtV (m:List Int) (h:Hh):Int:=targetV (decodeV (rd m h.f1)).1 (decodeV (rd m h.f1)).2.1 (decodeV (rd m h.f1)).2.2.1 (decodeV (rd m h.f1)).2.2.2.1 (decodeV (rd m h.f1)).2.2.2.2.1 h.f0
def wkV (m:List Int) (h:Hh):List Int×Int×Int×Int:=workV h.f0 h.f1 h.f2 (decodeV (rd m h.f1)).1 (decodeV (rd m h.f1)).2.1 (decodeV (rd m h.f1)).2.2.1 (decodeV (rd m h.f1)).2.2.2.1 (decodeV (rd m h.f1)).2.2.2.2.1 (gotV m h)
def stepV (m:List Int) (h:Hh):List Int×Hh:=(if 0≤(wkV m h).2.2.2 then m.set (tgtV m h).toNat (wkV m h).2.2.2 else m,⟨(wkV m h).1,(wkV m h).2.1,(wkV m h).2.2.1⟩)
theorem tgt_range (o i a b n:Int) (r:List Int):targetV o i a b n r= -1∨0≤targetV o i a b n r∧targetV o i a b n r≤23:=by
 unfold targetV
 by_cases h:insOkB o i a b n=true∧(o=4∨o=5∨o=6)∧r.length=4
 ·rw [if_pos h];right;omega
 ·rw [if_neg h];left;rfl
theorem put_tgt {r:List Int} {pc st o i a b n got:Int} (h:0≤(workV r pc st o i a b n got).2.2.2):0≤targetV o i a b n r:=by
 unfold workV at h
 by_cases c:hartB r pc st=true∧st=0∧(0≤got∧got≤65535)
 ·rw [if_pos c] at h
  by_cases hi:insOkB o i a b n=true
  ·rw [if_pos hi] at h
   have hl:=hartB_len c.1
   unfold targetV
   by_cases c5:o=5
   ·rw [if_pos ⟨hi,.inr (.inl c5),hl⟩];omega
   ·by_cases c6:o=6
    ·rw [if_pos ⟨hi,.inr (.inr c6),hl⟩];omega
    ·exfalso
     unfold opV at h
     rw [if_neg c5,if_neg c6] at h
     revert h
     split
     ·simp
     split
     ·simp
     split
     ·simp
     split
     ·simp
     split
     ·simp
     split
     ·split<;>simp
     split
     ·simp
     split<;>simp
  ·rw [if_neg hi] at h;simp at h
 ·rw [if_neg c] at h;simp at h
theorem implStep_eq (m:List Int) (h:Hh) (hm:m.length=24) (hh:hB h=true) (k:Nat) (hk:20<k):impl_step.f k m h.f0 h.f1 h.f2=some ((stepV m h).2.f0,(stepV m h).2.f1,(stepV m h).2.f2,(stepV m h).1):=by
 obtain ⟨p1,p2,p3,p4⟩:=hartB_parts hh
 unfold impl_step.f stepV
 rw [if_pos p3.1,if_pos (by omega),implDecode_eq,Option.bind_some]
 simp only [implTarget_eq,Option.bind_some]
 rcases tgt_range (decodeV (rd m h.f1)).1 (decodeV (rd m h.f1)).2.1 (decodeV (rd m h.f1)).2.2.1 (decodeV (rd m h.f1)).2.2.2.1 (decodeV (rd m h.f1)).2.2.2.2.1 h.f0 with t|t
 ·rw [if_neg (by omega),implWork_eq _ _ _ _ _ _ _ _ _ (by omega) k (by omega),Option.bind_some]
  have e:gotV m h=0:=by unfold gotV;rw [if_neg (by omega)]
  unfold wkV;rw [e]
  by_cases c:0≤(workV h.f0 h.f1 h.f2 (decodeV (rd m h.f1)).1 (decodeV (rd m h.f1)).2.1 (decodeV (rd m h.f1)).2.2.1 (decodeV (rd m h.f1)).2.2.2.1 (decodeV (rd m h.f1)).2.2.2.2.1 0).2.2.2
  ·have:=put_tgt c;omega
  ·rw [if_neg c,if_neg c]
 ·have e:gotV m h=rd m (tgtV m h):=by unfold gotV tgtV;rw [if_pos t.1]
  rw [if_pos t.1,if_pos t.1,if_pos (by omega),implWork_eq _ _ _ _ _ _ _ _ _ (by omega) k (by omega),Option.bind_some]
  unfold wkV;rw [e];unfold tgtV
  by_cases c:0≤(workV h.f0 h.f1 h.f2 (decodeV (rd m h.f1)).1 (decodeV (rd m h.f1)).2.1 (decodeV (rd m h.f1)).2.2.1 (decodeV (rd m h.f1)).2.2.2.1 (decodeV (rd m h.f1)).2.2.2.2.1 (rd m (targetV (decodeV (rd m h.f1)).1 (decodeV (rd m h.f1)).2.1 (decodeV (rd m h.f1)).2.2.1 (decodeV (rd m h.f1)).2.2.2.1 (decodeV (rd m h.f1)).2.2.2.2.1 h.f0))).2.2.2
  ·rw [if_pos c,if_pos c]
  ·rw [if_neg c,if_neg c]
theorem rdH (l:List Hh) (i:Nat) (h:i<l.length):rd_T72 l (i:Int)=l[i]:=by
 unfold rd_T72;simp [List.getD,h]
def shortH (l:List Hh):Prop:=∀h,h∈l→h.f0.length≤2097152
theorem copyHarts_eq (l:List Hh) (hl:l.length≤2097152) (hb:shortH l) (k:Nat) (hk:l.length<k):impl_copyHarts.f k l=some l:=by
 unfold impl_copyHarts.f
 have h:=for_st l.length (fun k i (s:List Hh)=>impl_copyHarts.l0 k s l (l.length:Int) (i:Int)) (fun i=>l.take i) l ?_ ?_ k 0 (Nat.zero_le _) (by omega)
 ·simpa using h
 ·intro k i hi
  simp only [impl_copyHarts.l0]
  have hx:=hb _ (List.getElem_mem hi)
  rw [if_pos (by omega),if_pos (by omega),if_pos (by omega),rdH l i hi]
  unfold impl_copyHart.f slices_Clone_int_int.f
  rw [if_pos (by omega),Option.bind_some,Option.bind_some,if_pos (by simp;omega),wrap_succ (by omega),←snoc_step l i hi]
 ·intro k
  simp only [impl_copyHarts.l0]
  rw [if_neg (by omega),List.take_of_length_le (Nat.le_refl _)]
def goB (h:Hh):Bool:=hB h&&(h.f2 == 0)
theorem implGoes_eq (h:Hh) (hl:h.f0.length≤2097152) (k:Nat) (hk:h.f0.length<k):impl_goes.f k h.f0 h.f1 h.f2=some (goB h):=by
 unfold impl_goes.f goB hB
 rw [implHartOk_eq _ _ _ hl k hk,Option.bind_some]
 cases hartB h.f0 h.f1 h.f2<;>rfl
def mayGo (hs:List Hh) (i:Int):Prop:=0≤i∧i<(hs.length:Int)∧goB (rd_T72 hs i)=true
instance (hs:List Hh) (i:Int):Decidable (mayGo hs i):=by unfold mayGo;infer_instance
def nextV (s:List Int×List Hh) (i:Int):List Int×List Hh:=if mayGo s.2 i then ((stepV s.1 (rd_T72 s.2 i)).1,s.2.set i.toNat (stepV s.1 (rd_T72 s.2 i)).2) else s
def runV (m:List Int) (hs:List Hh) (order:List Int):List Int×List Hh:=order.foldl nextV (m,hs)
theorem stepV_len (m:List Int) (h:Hh):(stepV m h).1.length=m.length:=by
 unfold stepV;dsimp only;split
 ·rw [List.length_set]
 ·rfl
theorem nextV_len (s:List Int×List Hh) (i:Int):(nextV s i).1.length=s.1.length∧(nextV s i).2.length=s.2.length:=by
 unfold nextV;split
 ·exact ⟨stepV_len _ _,by rw [List.length_set]⟩
 ·exact ⟨rfl,rfl⟩
theorem stepV_short (m:List Int) (h:Hh) (hl:h.f0.length≤2097152):(stepV m h).2.f0.length≤2097152:=by
 unfold stepV wkV;dsimp only
 unfold workV;split
 ·split
  ·unfold opV
   split
   ·rw [List.length_set];exact hl
   split
   ·rw [List.length_set];exact hl
   split
   ·rw [List.length_set];exact hl
   split
   ·rw [List.length_set];exact hl
   split
   ·rw [List.length_set];exact hl
   split
   ·exact hl
   split
   ·rw [List.length_set];exact hl
   split
   ·split<;>exact hl
   split
   ·exact hl
   split<;>exact hl
  ·exact hl
 ·exact hl
theorem rdH_mem (l:List Hh) (i:Int) (h0:0≤i) (h1:i<(l.length:Int)):rd_T72 l i∈l:=by
 obtain ⟨j,rfl⟩: ∃j:Nat,i=(j:Int):=⟨i.toNat,by omega⟩
 rw [rdH l j (by omega)];exact List.getElem_mem _
theorem nextV_short (s:List Int×List Hh) (i:Int) (h:shortH s.2):shortH (nextV s i).2:=by
 unfold nextV;split
 ·rename_i c
  intro x hx
  rcases List.mem_or_eq_of_mem_set hx with hx|rfl
  ·exact h x hx
  ·exact stepV_short _ _ (h _ (rdH_mem _ _ c.1 c.2.1))
 ·exact h
theorem runV_snoc (m:List Int) (hs:List Hh) (o:List Int) (i:Int):runV m hs (o++[i])=nextV (runV m hs o) i:=by unfold runV;rw [List.foldl_append];rfl
theorem runV_len (m:List Int) (hs:List Hh) (o:List Int):(runV m hs o).1.length=m.length∧(runV m hs o).2.length=hs.length:=by
 have g: ∀(o:List Int) s,((o.foldl nextV s).1).length=s.1.length∧((o.foldl nextV s).2).length=s.2.length:=by
  intro o
  induction o with
  |nil=>exact fun s=>⟨rfl,rfl⟩
  |cons i o ih=>intro s;have h:=ih (nextV s i);have h2:=nextV_len s i;exact ⟨h.1.trans h2.1,h.2.trans h2.2⟩
 exact g o (m,hs)
theorem runV_short (m:List Int) (hs:List Hh) (o:List Int) (h:shortH hs):shortH (runV m hs o).2:=by
 have g: ∀(o:List Int) s,shortH s.2→shortH (o.foldl nextV s).2:=by
  intro o
  induction o with
  |nil=>exact fun s h=>h
  |cons i o ih=>intro s h;exact ih _ (nextV_short s i h)
 exact g o (m,hs) h
def flatV (m:List Int) (h:Hh):List Int×Hh:=if wordsB m 24=true∧goB h=true then stepV m h else (m,h)
theorem hartB_mk {r:List Int} {p s:Int} (h1:r.length=4) (h2: ∀x∈r,0≤x∧x≤65535) (h3:0≤p∧p≤23) (h4:0≤s∧s≤2):hartB r p s=true:=by
 unfold hartB wordsB
 rw [decide_eq_true h3,decide_eq_true h4,decide_eq_true (by omega),List.all_eq_true.2 fun x hx=>decide_eq_true (h2 x hx)];rfl
theorem set_word {r:List Int} {i:Nat} {v:Int} (h2: ∀x∈r,0≤x∧x≤65535) (hv:0≤v∧v≤65535): ∀x∈r.set i v,0≤x∧x≤65535:=fun x hx=>by
 rcases List.mem_or_eq_of_mem_set hx with hx|rfl
 ·exact h2 x hx
 ·exact hv
theorem workV_ok (r:List Int) (pc st o i a b n got:Int) (h:hartB r pc st=true):hartB (workV r pc st o i a b n got).1 (workV r pc st o i a b n got).2.1 (workV r pc st o i a b n got).2.2.1=true∧(workV r pc st o i a b n got).2.2.2≤65535:=by
 obtain ⟨p1,p2,p3,p4⟩:=hartB_parts h
 have wa:=rd_word p2 a
 have wb:=rd_word p2 b
 unfold workV
 by_cases c:hartB r pc st=true∧st=0∧(0≤got∧got≤65535)
 ·rw [if_pos c]
  by_cases hi:insOkB o i a b n=true
  ·have q:=insOkB_bounds hi
   have hst:=c.2.1
   have hg:=c.2.2
   have s1: ∀v:Int,0≤v∧v≤65535→hartB (r.set i.toNat v) ((pc+1) % 24) st=true:=fun v hv=>hartB_mk (by rw [List.length_set];exact p1) (set_word p2 hv) (by omega) p4
   rw [if_pos hi]
   unfold opV
   split
   ·exact ⟨s1 _ (by omega),by dsimp only;omega⟩
   split
   ·exact ⟨s1 _ (by omega),by dsimp only;omega⟩
   split
   ·exact ⟨s1 _ (by omega),by dsimp only;omega⟩
   split
   ·exact ⟨s1 _ (by omega),by dsimp only;omega⟩
   split
   ·exact ⟨s1 _ hg,by dsimp only;omega⟩
   split
   ·exact ⟨hartB_mk p1 p2 (by dsimp only;omega) p4,wb.2⟩
   split
   ·exact ⟨s1 _ hg,by dsimp only;omega⟩
   split
   ·split
    ·exact ⟨hartB_mk p1 p2 (by dsimp only;omega) p4,by dsimp only;omega⟩
    ·exact ⟨hartB_mk p1 p2 (by dsimp only;omega) p4,by dsimp only;omega⟩
   split
   ·exact ⟨hartB_mk p1 p2 (by dsimp only;omega) p4,by dsimp only;omega⟩
   split
   ·exact ⟨hartB_mk p1 p2 p3 (by dsimp only;omega),by dsimp only;omega⟩
   ·exact ⟨hartB_mk p1 p2 (by dsimp only;omega) p4,by dsimp only;omega⟩
  ·rw [if_neg hi];exact ⟨hartB_mk p1 p2 p3 (by dsimp only;omega),by dsimp only;omega⟩
 ·rw [if_neg c];exact ⟨h,by dsimp only;omega⟩
theorem wordsB_set {m:List Int} {i:Nat} {v:Int} (h:wordsB m 24=true) (hv:0≤v∧v≤65535):wordsB (m.set i v) 24=true:=by
 have l:=wordsB_24 h
 unfold wordsB
 rw [List.length_set,decide_eq_true (by omega),List.all_eq_true.2 fun x hx=>decide_eq_true (set_word (fun x hx=>wordsB_mem h x hx) hv x hx)];rfl
theorem stepV_ok (m:List Int) (h:Hh) (hm:wordsB m 24=true) (hh:hB h=true):wordsB (stepV m h).1 24=true∧hB (stepV m h).2=true:=by
 have w:=workV_ok h.f0 h.f1 h.f2 (decodeV (rd m h.f1)).1 (decodeV (rd m h.f1)).2.1 (decodeV (rd m h.f1)).2.2.1 (decodeV (rd m h.f1)).2.2.2.1 (decodeV (rd m h.f1)).2.2.2.2.1 (gotV m h) hh
 have e:wkV m h=workV h.f0 h.f1 h.f2 (decodeV (rd m h.f1)).1 (decodeV (rd m h.f1)).2.1 (decodeV (rd m h.f1)).2.2.1 (decodeV (rd m h.f1)).2.2.2.1 (decodeV (rd m h.f1)).2.2.2.2.1 (gotV m h):=rfl
 rw [←e] at w
 unfold stepV
 refine ⟨?_,w.1⟩
 dsimp only
 split
 ·rename_i c;exact wordsB_set hm ⟨c,w.2⟩
 ·exact hm
theorem nextV_words (s:List Int×List Hh) (i:Int) (hm:wordsB s.1 24=true):wordsB (nextV s i).1 24=true:=by
 unfold nextV
 split
 ·rename_i c
  have g:=c.2.2
  unfold goB at g
  rw [Bool.and_eq_true] at g
  exact (stepV_ok _ _ hm g.1).1
 ·exact hm
theorem runV_words (m:List Int) (hs:List Hh) (o:List Int) (hm:wordsB m 24=true):wordsB (runV m hs o).1 24=true:=by
 have g: ∀(o:List Int) s,wordsB s.1 24=true→wordsB (o.foldl nextV s).1 24=true:=by
  intro o
  induction o with
  |nil=>exact fun s h=>h
  |cons i o ih=>intro s h;exact ih _ (nextV_words s i h)
 exact g o (m,hs) hm
theorem sAddr_eq (x:Int):spec_l9Address.f x=some (x % 24):=by
 unfold spec_l9Address.f
 have hb:=tmod_bd x 24 (by omega)
 have hu:=tmod_up x 24 (by omega) (by omega)
 generalize x.tmod 24=t at hb hu ⊢
 rw [←hu]
 by_cases c:t<0
 ·rw [if_pos c,wrap_small (by omega) (by omega),tmod_pos _ _ (by omega),Int.emod_eq_of_lt (by omega) (by omega)]
 ·rw [if_neg c,tmod_pos _ _ (by omega),Int.add_emod_right,Int.emod_eq_of_lt (by omega) (by omega)]
theorem and_word (x:Int):Go.bits .and .i64 x 65535=x % 65536:=by
 have e:Go.bits .and .i64 x 65535=IntKind.i64.wrap (((BitVec.ofInt 64 x&&& BitVec.ofInt 64 (65535:Int)).toNat:Nat):Int):=rfl
 have h:(BitVec.ofInt 64 x&&& BitVec.ofInt 64 (65535:Int)).toNat=(x % 65536).toNat:=by
  rw [BitVec.toNat_and,show (BitVec.ofInt 64 (65535:Int)).toNat=2 ^ 16-1 by decide,Nat.and_two_pow_sub_one_eq_mod,BitVec.toNat_ofInt]
  omega
 rw [e,h,wraps_i64 _ (by omega) (by omega)]
 omega
theorem sWord_eq (x:Int):spec_l9Word.f x=some (x % 65536):=by
 unfold spec_l9Word.f
 rw [and_word]
theorem specDecode_eq (w:Int):spec_Decode.f w=some (decodeV w):=by
 unfold spec_Decode.f decodeV decodeB
 rw [l1In_eq,Option.bind_some]
 by_cases h:0≤w∧w≤65535
 ·have e1:Int.tmod w 16=w % 16:=tmod_pos _ _ h.1
  have e2:Int.tmod (wrap64 (Int.tdiv w 16)) 4=w / 16 % 4:=by rw [tdiv_pos _ _ h.1,wrap_small (by omega) (by omega),tmod_pos _ _ (by omega)]
  have e3:Int.tmod (wrap64 (Int.tdiv w 64)) 4=w / 64 % 4:=by rw [tdiv_pos _ _ h.1,wrap_small (by omega) (by omega),tmod_pos _ _ (by omega)]
  have e4:Int.tmod (wrap64 (Int.tdiv w 256)) 4=w / 256 % 4:=by rw [tdiv_pos _ _ h.1,wrap_small (by omega) (by omega),tmod_pos _ _ (by omega)]
  have e5:wrap64 (Int.tdiv w 1024)=w / 1024:=by rw [tdiv_pos _ _ h.1,wrap_small (by omega) (by omega)]
  rw [decide_eq_true h,if_pos rfl,e1,e2,e3,e4,e5,specInsOk_eq,Option.bind_some,Bool.true_and]
  split<;>rfl
 ·rw [decide_eq_false h,if_neg (by simp),Bool.false_and,if_neg (by simp)]
theorem specTarget_eq (o i a b n:Int) (r:List Int):spec_Target.f o i a b n r=some (targetV o i a b n r):=by
 unfold spec_Target.f targetV
 rw [specInsOk_eq,Option.bind_some]
 by_cases h:insOkB o i a b n=true
 ·have hb:=insOkB_bounds h
  rw [if_pos h]
  by_cases hl:r.length=4
  ·rw [if_pos (by omega)]
   by_cases c4:o=4
   ·rw [if_pos c4,if_pos (by omega),if_pos (by omega),sAddr_eq,Option.bind_some,if_pos ⟨h,.inl c4,hl⟩]
   rw [if_neg c4]
   by_cases c5:o=5
   ·rw [if_pos c5,if_pos (by omega),if_pos (by omega),sAddr_eq,Option.bind_some,if_pos ⟨h,.inr (.inl c5),hl⟩]
   rw [if_neg c5]
   by_cases c6:o=6
   ·rw [if_pos c6,if_pos (by omega),if_pos (by omega),sAddr_eq,Option.bind_some,if_pos ⟨h,.inr (.inr c6),hl⟩]
   ·rw [if_neg c6,if_neg (fun x=>by rcases x.2.1 with q|q|q<;>first|exact c4 q|exact c5 q|exact c6 q)]
  ·rw [if_neg (by omega),if_neg (fun x=>hl x.2.2)]
 ·rw [if_neg h,if_neg (fun x=>h x.1)]
theorem specWork_j1 (k:Nat) (r:List Int) (pc st o i a b n got:Int) (hr:r.length=4) (hw: ∀x,x∈r→0≤x∧x≤65535) (hg:0≤got∧got≤65535) (hi:0≤i∧i≤3) (hn:0≤n∧n≤63):
  spec_Work.j1 (k+2) got (-1) (rd r a) (rd r b) o r pc st o i a b n r ((pc+1) % 24) st=some (opV r pc st o i a b n got):=by
 have wa:=rd_word hw a
 have wb:=rd_word hw b
 rw [spec_Work.j1]
 unfold opV
 rw [wrap_small (x:=rd r a+rd r b) (by omega) (by omega),wrap_small (x:=rd r a-rd r b) (by omega) (by omega),wrap_small (x:=rd r a+n) (by omega) (by omega),wrap_small (x:=got+rd r b) (by omega) (by omega)]
 simp only [sWord_eq,sAddr_eq,Option.bind_some]
 have h1:i<(r.length:Int):=by omega
 simp only [if_pos hi.1,if_pos h1]
 by_cases c1:o=1
 ·rw [if_pos c1,if_pos c1]
  all_goals (try rw [spec_Work.j2])
 rw [if_neg c1,if_neg c1]
 by_cases c2:o=2
 ·rw [if_pos c2,if_pos c2]
  all_goals (try rw [spec_Work.j2])
 rw [if_neg c2,if_neg c2]
 by_cases c3:o=10
 ·rw [if_pos c3,if_pos c3]
  all_goals (try rw [spec_Work.j2])
 rw [if_neg c3,if_neg c3]
 by_cases c4:o=3
 ·rw [if_pos c4,if_pos c4]
  all_goals (try rw [spec_Work.j2])
 rw [if_neg c4,if_neg c4]
 by_cases c5:o=4
 ·rw [if_pos c5,if_pos c5]
  all_goals (try rw [spec_Work.j2])
 rw [if_neg c5,if_neg c5]
 by_cases c6:o=5
 ·rw [if_pos c6,if_pos c6]
  all_goals (try rw [spec_Work.j2])
 rw [if_neg c6,if_neg c6]
 by_cases c7:o=6
 ·rw [if_pos c7,if_pos c7]
  all_goals (try rw [spec_Work.j2])
 rw [if_neg c7,if_neg c7]
 by_cases c8:o=7
 ·rw [if_pos c8,if_pos c8]
  by_cases c:rd r a=0
  ·rw [if_pos c,if_pos c]
   all_goals (try rw [spec_Work.j2])
  ·rw [if_neg c,if_neg c]
   all_goals (try rw [spec_Work.j2])
 rw [if_neg c8,if_neg c8]
 by_cases c9:o=8
 ·rw [if_pos c9,if_pos c9]
  all_goals (try rw [spec_Work.j2])
 rw [if_neg c9,if_neg c9]
 by_cases c10:o=9
 ·rw [if_pos c10,if_pos c10]
  all_goals (try rw [spec_Work.j2])
 rw [if_neg c10,if_neg c10]
 all_goals (try rw [spec_Work.j2])
theorem specWork_eq (r:List Int) (pc st o i a b n got:Int) (hl:r.length≤2097152) (k:Nat) (hk:r.length+10<k):spec_Work.f k r pc st o i a b n got=some (workV r pc st o i a b n got):=by
 obtain ⟨k,rfl⟩: ∃m,k=m+4:=⟨k-4,by omega⟩
 unfold spec_Work.f spec_l9Copy.f workV
 rw [Option.bind_some,if_pos (by simp;omega),Option.bind_some,List.nil_append]
 simp only [specHartOk_eq r pc st (by omega) (k+4) (by omega),Option.bind_some]
 have jt:spec_Work.j0 (k+4) got true r pc st o i a b n r pc st=some (r,pc,st,-1):=by rw [spec_Work.j0,if_pos rfl]
 by_cases h:hartB r pc st=true
 ·obtain ⟨p1,p2,p3,p4⟩:=hartB_parts h
  rw [if_pos h]
  by_cases hs:st=0
  ·rw [if_pos hs,l1In_eq,Option.bind_some]
   by_cases hg:0≤got∧got≤65535
   ·rw [if_pos ⟨h,hs,hg⟩,decide_eq_true hg,Bool.not_true,spec_Work.j0,if_neg (by simp),wrap_small (x:=pc+1) (by omega) (by omega),sAddr_eq,Option.bind_some,specInsOk_eq,Option.bind_some]
    by_cases hi:insOkB o i a b n=true
    ·obtain ⟨b0,b0',b1,b1',b2,b2',b3,b3',b4,b4'⟩:=insOkB_bounds hi
     rw [if_pos hi,if_pos hi,if_pos b2,if_pos (by omega),if_pos b3,if_pos (by omega)]
     exact specWork_j1 (k+1) r pc st o i a b n got p1 p2 hg ⟨b1,b1'⟩ ⟨b4,b4'⟩
    ·rw [if_neg hi,if_neg hi]
   ·rw [if_neg (fun c=>hg c.2.2),decide_eq_false hg,Bool.not_false,jt]
  ·rw [if_neg hs,jt,if_neg (fun c=>hs c.2.1)]
 ·rw [if_neg h,jt,if_neg (fun c=>h c.1)]
theorem specFlatStep_eq (m:List Int) (h:Hh) (hm:m.length≤2097152) (hl:h.f0.length≤2097152) (k:Nat) (hk:2097200<k):spec_FlatStep.f k m h.f0 h.f1 h.f2=some ((flatV m h).1,(flatV m h).2.f0,(flatV m h).2.f1,(flatV m h).2.f2):=by
 obtain ⟨k,rfl⟩: ∃j,k=j+1:=⟨k-1,by omega⟩
 unfold spec_FlatStep.f flatV
 rw [Option.bind_some,if_pos (by simp;omega),Option.bind_some,List.nil_append,l1Words_eq m 24 hm (k+1) (by omega),Option.bind_some]
 have jt:spec_FlatStep.j0 (k+1) m m true h.f0 h.f1 h.f2=some (m,h.f0,h.f1,h.f2):=by
  rw [spec_FlatStep.j0,if_pos rfl]
  unfold spec_l9Copy.f
  rw [Option.bind_some,if_pos (by simp;omega),Option.bind_some,List.nil_append]
 by_cases w:wordsB m 24=true
 ·have l24:=wordsB_24 w
  rw [if_pos w,specHartOk_eq _ _ _ hl (k+1) (by omega),Option.bind_some]
  by_cases hh:hartB h.f0 h.f1 h.f2=true
  ·obtain ⟨p1,p2,p3,p4⟩:=hartB_parts hh
   rw [if_pos hh]
   by_cases hs:h.f2=0
   ·have g:goB h=true:=by unfold goB hB;rw [hh,hs];rfl
    rw [if_pos ⟨w,g⟩,show (h.f2 != 0)=false by rw [hs];rfl,spec_FlatStep.j0,if_neg (by simp),if_pos p3.1,if_pos (by omega),specDecode_eq,Option.bind_some,specTarget_eq,Option.bind_some]
    unfold stepV
    rcases tgt_range (decodeV (rd m h.f1)).1 (decodeV (rd m h.f1)).2.1 (decodeV (rd m h.f1)).2.2.1 (decodeV (rd m h.f1)).2.2.2.1 (decodeV (rd m h.f1)).2.2.2.2.1 h.f0 with t|t
    ·have e:gotV m h=0:=by unfold gotV;rw [if_neg (by omega)]
     rw [if_neg (by omega),specWork_eq _ _ _ _ _ _ _ _ _ (by omega) k (by omega),Option.bind_some]
     unfold wkV;rw [e]
     by_cases c:0≤(workV h.f0 h.f1 h.f2 (decodeV (rd m h.f1)).1 (decodeV (rd m h.f1)).2.1 (decodeV (rd m h.f1)).2.2.1 (decodeV (rd m h.f1)).2.2.2.1 (decodeV (rd m h.f1)).2.2.2.2.1 0).2.2.2
     ·have:=put_tgt c;omega
     ·rw [if_neg c,if_neg c]
    ·have e:gotV m h=rd m (tgtV m h):=by unfold gotV tgtV;rw [if_pos t.1]
     rw [if_pos t.1,if_pos t.1,if_pos (by omega),specWork_eq _ _ _ _ _ _ _ _ _ (by omega) k (by omega),Option.bind_some]
     unfold wkV;rw [e];unfold tgtV
     by_cases c:0≤(workV h.f0 h.f1 h.f2 (decodeV (rd m h.f1)).1 (decodeV (rd m h.f1)).2.1 (decodeV (rd m h.f1)).2.2.1 (decodeV (rd m h.f1)).2.2.2.1 (decodeV (rd m h.f1)).2.2.2.2.1 (rd m (targetV (decodeV (rd m h.f1)).1 (decodeV (rd m h.f1)).2.1 (decodeV (rd m h.f1)).2.2.1 (decodeV (rd m h.f1)).2.2.2.1 (decodeV (rd m h.f1)).2.2.2.2.1 h.f0))).2.2.2
     ·rw [if_pos c,if_pos c,if_pos (by omega)]
     ·rw [if_neg c,if_neg c]
   ·have g: ¬goB h=true:=fun q=>by unfold goB at q;rw [Bool.and_eq_true] at q;exact hs (by simpa using q.2)
    rw [show (h.f2 != 0)=true by simpa using hs,jt,if_neg (fun q=>g q.2)]
  ·have g: ¬goB h=true:=fun q=>by unfold goB hB at q;rw [Bool.and_eq_true] at q;exact hh q.1
   rw [if_neg hh,jt,if_neg (fun q=>g q.2)]
 ·rw [if_neg w,jt,if_neg (fun q=>w q.1)]
abbrev Ev:=S74
def eventV (m:List Int) (h:Hh) (who:Int):Ev:=if tgtV m h<0 then ⟨who,h.f1,tgtV m h,-1,-1⟩ else ⟨who,h.f1,tgtV m h,if (decodeV (rd m h.f1)).1=5 then-1 else rd m (tgtV m h),(wkV m h).2.2.2⟩
def traceV:List Int×List Hh→List Int→List Ev
 |_,[]=>[]
 |s,i :: o=>if mayGo s.2 i then eventV s.1 (rd_T72 s.2 i) i :: traceV (nextV s i) o else traceV s o
def ev1 (s:List Int×List Hh) (i:Int):List Ev:=if mayGo s.2 i then [eventV s.1 (rd_T72 s.2 i) i] else []
theorem traceV_snoc: ∀(o:List Int) (s:List Int×List Hh) (i:Int),traceV s (o++[i])=traceV s o++ev1 (o.foldl nextV s) i
 |[],s,i=>by
  simp only [List.nil_append,traceV,List.foldl_nil]
  unfold ev1
  split<;>rfl
 |j :: o,s,i=>by
  simp only [List.cons_append,traceV,List.foldl_cons]
  by_cases c:mayGo s.2 j
  ·rw [if_pos c,if_pos c,traceV_snoc o (nextV s j) i];rfl
  ·have e:nextV s j=s:=by unfold nextV;rw [if_neg c]
   rw [if_neg c,if_neg c,e,traceV_snoc o s i]
theorem traceV_len: ∀(o:List Int) (s:List Int×List Hh),(traceV s o).length≤o.length
 |[],s=>Nat.le_refl _
 |j :: o,s=>by
  simp only [traceV]
  have h1:=traceV_len o (nextV s j)
  have h2:=traceV_len o s
  split
  ·simp only [List.length_cons];omega
  ·simp only [List.length_cons];omega
theorem specEventOf_eq (m:List Int) (h:Hh) (who:Int) (hm:m.length≤2097152) (hl:h.f0.length≤2097152) (k:Nat) (hk:2097200<k):spec_EventOf.f k m h.f0 h.f1 h.f2 who=some (if wordsB m 24=true∧goB h=true then ((eventV m h who).f0,(eventV m h who).f1,(eventV m h who).f2,(eventV m h who).f3,(eventV m h who).f4,true) else (0,0,0,0,0,false)):=by
 obtain ⟨k,rfl⟩: ∃j,k=j+1:=⟨k-1,by omega⟩
 unfold spec_EventOf.f
 rw [l1Words_eq m 24 hm (k+1) (by omega),Option.bind_some]
 have jt:spec_EventOf.j0 (k+1) m who true h.f0 h.f1 h.f2=some (0,0,0,0,0,false):=by rw [spec_EventOf.j0,if_pos rfl]
 by_cases w:wordsB m 24=true
 ·have l24:=wordsB_24 w
  rw [if_pos w,specHartOk_eq _ _ _ hl (k+1) (by omega),Option.bind_some]
  by_cases hh:hartB h.f0 h.f1 h.f2=true
  ·obtain ⟨p1,p2,p3,p4⟩:=hartB_parts hh
   rw [if_pos hh]
   by_cases hs:h.f2=0
   ·have g:goB h=true:=by unfold goB hB;rw [hh,hs];rfl
    rw [if_pos ⟨w,g⟩,show (h.f2 != 0)=false by rw [hs];rfl,spec_EventOf.j0,if_neg (by simp),if_pos p3.1,if_pos (by omega),specDecode_eq,Option.bind_some,specTarget_eq,Option.bind_some]
    unfold eventV
    have eT:targetV (decodeV (rd m h.f1)).1 (decodeV (rd m h.f1)).2.1 (decodeV (rd m h.f1)).2.2.1 (decodeV (rd m h.f1)).2.2.2.1 (decodeV (rd m h.f1)).2.2.2.2.1 h.f0=tgtV m h:=rfl
    rw [eT]
    have t:tgtV m h= -1∨0≤tgtV m h∧tgtV m h≤23:=tgt_range _ _ _ _ _ _
    rcases t with t|t
    ·have ht:tgtV m h<0:=by omega
     simp only [if_pos ht]
    ·have e:gotV m h=rd m (tgtV m h):=by
      show (if 0≤tgtV m h then rd m (tgtV m h) else 0)=_
      rw [if_pos t.1]
     have ew:workV h.f0 h.f1 h.f2 (decodeV (rd m h.f1)).1 (decodeV (rd m h.f1)).2.1 (decodeV (rd m h.f1)).2.2.1 (decodeV (rd m h.f1)).2.2.2.1 (decodeV (rd m h.f1)).2.2.2.2.1 (rd m (tgtV m h))=wkV m h:=by unfold wkV;rw [e]
     have ht: ¬tgtV m h<0:=by omega
     have h0:tgtV m h<(m.length:Int):=by omega
     simp only [if_neg ht,if_pos t.1,if_pos h0]
     rw [specWork_eq _ _ _ _ _ _ _ _ _ (by omega) k (by omega),Option.bind_some,ew]
     by_cases c5:(decodeV (rd m h.f1)).1=5
     ·simp only [if_pos c5]
     ·simp only [if_neg c5]
   ·have g: ¬goB h=true:=fun q=>by unfold goB at q;rw [Bool.and_eq_true] at q;exact hs (by simpa using q.2)
    rw [show (h.f2 != 0)=true by simpa using hs,jt,if_neg (fun q=>g q.2)]
  ·have g: ¬goB h=true:=fun q=>by unfold goB hB at q;rw [Bool.and_eq_true] at q;exact hh q.1
   rw [if_neg hh,jt,if_neg (fun q=>g q.2)]
 ·rw [if_neg w,jt,if_neg (fun q=>w q.1)]
theorem specTrace_eq (m:List Int) (hs:List Hh) (o:List Int) (w:wordsB m 24=true) (hn:hs.length≤2097152) (hb:shortH hs) (k:Nat) (hk:3000002<k):
  spec_Trace.f k m hs o=some (if o.length≤2000 then traceV (m,hs) o else []):=by
 have l24:=wordsB_24 w
 unfold spec_Trace.f
 rw [Option.bind_some,if_pos (by simp;omega),Option.bind_some,if_pos (by simp;omega),List.nil_append,List.nil_append]
 obtain ⟨k,rfl⟩: ∃j,k=j+2:=⟨k-2,by omega⟩
 by_cases ho:o.length≤2000
 ·obtain ⟨C,hC⟩: ∃C:Nat,C=2200000:=⟨_,rfl⟩
  rw [if_pos ho]
  have h:=for_st o.length (fun k' i (s:List Ev×List Int×List Hh)=>spec_Trace.l0 (2*k'+C) o s.1 s.2.1 s.2.2 (i:Int)) (fun i=>(traceV (m,hs) (o.take i),runV m hs (o.take i))) (traceV (m,hs) o) ?_ ?_ ((k+2-C) / 2-1) 0 (Nat.zero_le _) (by omega)
  ·obtain ⟨d,hd⟩: ∃d,k+2=2*((k+2-C) / 2-1)+C+d:=⟨k+2-(2*((k+2-C) / 2-1)+C),by omega⟩
   rw [hd]
   clear hd
   simp only [List.take_zero] at h
   induction d with
   |zero=>exact h
   |succ d ih=>exact (spec_Trace.mono_l _).1 _ _ _ _ _ _ ih
  ·intro k' i hi
   rw [show 2*(k'+1)+C=(2*k'+C)+1+1 by omega]
   have e:runV m hs (o.take (i+1))=nextV (runV m hs (o.take i)) o[i]:=by rw [←snoc_step o i hi,runV_snoc]
   have et:traceV (m,hs) (o.take (i+1))=traceV (m,hs) (o.take i)++ev1 (runV m hs (o.take i)) o[i]:=by
    rw [←snoc_step o i hi,traceV_snoc];rfl
   have tl:=traceV_len (o.take i) (m,hs)
   rw [List.length_take] at tl
   have hl:=runV_len m hs (o.take i)
   have hsh:=runV_short m hs (o.take i) hb
   have hw:=runV_words m hs (o.take i) w
   dsimp only
   rw [e,et]
   generalize traceV (m,hs) (o.take i)=T at tl ⊢
   generalize runV m hs (o.take i)=s at hl hsh hw ⊢
   have l24:=wordsB_24 hw
   rw [spec_Trace.l0,if_pos (by omega),decide_eq_true (by omega),spec_Trace.j1,if_pos rfl,if_pos (by omega),if_pos (by omega),rd_nat o i hi,wrap_small (by omega) (by omega),l1In_eq,Option.bind_some,wrap_succ (by omega)]
   unfold nextV ev1
   by_cases c:0≤o[i]∧o[i]≤(s.2.length:Int)-1
   ·have hsi:=hsh _ (rdH_mem _ _ c.1 (by omega:o[i]<(s.2.length:Int)))
    rw [if_pos (decide_eq_true c),if_pos c.1,if_pos (by omega),specEventOf_eq _ _ _ (by omega) hsi _ (by omega),Option.bind_some]
    by_cases g:goB (rd_T72 s.2 o[i])=true
    ·have mg:mayGo s.2 o[i]:=⟨c.1,by omega,g⟩
     rw [if_pos (show wordsB s.1 24=true∧goB (rd_T72 s.2 o[i])=true from ⟨hw,g⟩),if_pos rfl,if_pos (by omega),specFlatStep_eq _ _ (by omega) hsi _ (by omega),Option.bind_some,if_pos mg,if_pos mg]
     unfold flatV
     rw [if_pos ⟨hw,g⟩]
    ·have mg: ¬mayGo s.2 o[i]:=fun q=>g q.2.2
     rw [if_neg (show ¬(wordsB s.1 24=true∧goB (rd_T72 s.2 o[i])=true) from fun q=>g q.2),if_neg (by simp),specFlatStep_eq _ _ (by omega) hsi _ (by omega),Option.bind_some,if_neg mg,if_neg mg]
     unfold flatV
     rw [if_neg (fun q=>g q.2),List.append_nil]
     congr 1
     obtain ⟨q,hq⟩: ∃q:Nat,o[i]=(q:Int):=⟨o[i].toNat,by omega⟩
     rw [hq,rdH s.2 q (by omega),Int.toNat_natCast]
     exact List.set_getElem_self (by omega)
   ·rw [if_neg (by simpa using c),if_neg (fun x=>c ⟨x.1,by have:=x.2.1;omega⟩),if_neg (fun x=>c ⟨x.1,by have:=x.2.1;omega⟩),List.append_nil]
  ·intro k'
   rw [show 2*(k'+1)+C=(2*k'+C)+1+1 by omega,List.take_of_length_le (Nat.le_refl _)]
   rw [spec_Trace.l0,if_neg (by omega),spec_Trace.j1,if_neg (by simp)]
 ·rw [if_neg ho]
  by_cases hz:(0:Int)<(o.length:Int)
  ·rw [spec_Trace.l0,if_pos hz,decide_eq_false (by omega),spec_Trace.j1,if_neg (by simp)]
  ·omega
def evD (x:Ev):Prop:=(0≤x.f0∧x.f0≤2)∧(0≤x.f1∧x.f1≤23)∧(-1≤x.f2∧x.f2≤23)∧(-1≤x.f3∧x.f3≤65535)∧(-1≤x.f4∧x.f4≤65535)
theorem workV_lo (r:List Int) (pc st o i a b n got:Int) (h:hartB r pc st=true): -1≤(workV r pc st o i a b n got).2.2.2:=by
 obtain ⟨p1,p2,p3,p4⟩:=hartB_parts h
 have wb:=rd_word p2 b
 unfold workV
 split
 ·rename_i c
  have hg:=c.2.2
  split
  ·unfold opV
   repeat' split
   all_goals dsimp only
   all_goals omega
  ·dsimp only;omega
 ·dsimp only;omega
theorem eventV_ok (m:List Int) (h:Hh) (who:Int) (hm:wordsB m 24=true) (g:goB h=true) (hw:0≤who∧who≤2):evD (eventV m h who):=by
 unfold goB at g
 rw [Bool.and_eq_true] at g
 obtain ⟨p1,p2,p3,p4⟩:=hartB_parts g.1
 have l24:=wordsB_24 hm
 have hr:=rd_word (fun x hx=>wordsB_mem hm x hx) (tgtV m h)
 have h1:=(workV_ok h.f0 h.f1 h.f2 (decodeV (rd m h.f1)).1 (decodeV (rd m h.f1)).2.1 (decodeV (rd m h.f1)).2.2.1 (decodeV (rd m h.f1)).2.2.2.1 (decodeV (rd m h.f1)).2.2.2.2.1 (gotV m h) g.1).2
 have h2:=workV_lo h.f0 h.f1 h.f2 (decodeV (rd m h.f1)).1 (decodeV (rd m h.f1)).2.1 (decodeV (rd m h.f1)).2.2.1 (decodeV (rd m h.f1)).2.2.2.1 (decodeV (rd m h.f1)).2.2.2.2.1 (gotV m h) g.1
 have ht:tgtV m h= -1∨0≤tgtV m h∧tgtV m h≤23:=tgt_range _ _ _ _ _ _
 have e:wkV m h=workV h.f0 h.f1 h.f2 (decodeV (rd m h.f1)).1 (decodeV (rd m h.f1)).2.1 (decodeV (rd m h.f1)).2.2.1 (decodeV (rd m h.f1)).2.2.2.1 (decodeV (rd m h.f1)).2.2.2.2.1 (gotV m h):=rfl
 rw [←e] at h1 h2
 unfold eventV evD
 split
 ·dsimp only;omega
 ·dsimp only;split<;>omega
theorem traceV_ok: ∀(o:List Int) (s:List Int×List Hh),wordsB s.1 24=true→s.2.length≤3→∀x∈traceV s o,evD x
 |[],s,_,_=>by simp [traceV]
 |j :: o,s,hm,hl=>by
  simp only [traceV]
  have hn:=nextV_words s j hm
  have hk:=(nextV_len s j).2
  split
  ·rename_i c
   intro x hx
   rcases List.mem_cons.1 hx with rfl|hx
   ·exact eventV_ok _ _ _ hm c.2.2 ⟨c.1,by have:=c.2.1;omega⟩
   ·exact traceV_ok o (nextV s j) hn (by omega) x hx
  ·exact traceV_ok o s hm hl
def wordX (x:Int):Prop:=0≤x∧x≤65535
theorem specCode_w (o r a b n:Int): ∃v t,spec_Code.f o r a b n=some (v,t)∧wordX v:=by
 unfold spec_Code.f
 rw [specInsOk_eq,Option.bind_some]
 by_cases h:insOkB o r a b n=true
 ·have q:=insOkB_bounds h
  rw [if_pos h]
  refine ⟨_,_,rfl,?_⟩
  unfold wordX
  rw [wrap_small (x:=16*r) (by omega) (by omega),wrap_small (x:=64*a) (by omega) (by omega),wrap_small (x:=256*b) (by omega) (by omega),wrap_small (x:=1024*n) (by omega) (by omega)]
  rw [wrap_small (x:=o+16*r) (by omega) (by omega)]
  rw [wrap_small (x:=o+16*r+64*a) (by omega) (by omega)]
  rw [wrap_small (x:=o+16*r+64*a+256*b) (by omega) (by omega)]
  rw [wrap_small (x:=o+16*r+64*a+256*b+1024*n) (by omega) (by omega)]
  omega
 ·rw [if_neg h];exact ⟨_,_,rfl,by unfold wordX;omega⟩
theorem specCodeW_fn: ∃cf:Int→Int→Int→Int→Int→Int×Bool,(∀o r a b n,spec_Code.f o r a b n=some (cf o r a b n))∧∀o r a b n,wordX (cf o r a b n).1:=by
 have h: ∀o r a b n,∃v:Int×Bool,spec_Code.f o r a b n=some v∧wordX v.1:=fun o r a b n=>by
  obtain ⟨v,t,e,w⟩:=specCode_w o r a b n
  exact ⟨(v,t),e,w⟩
 exact ⟨fun o r a b n=>(h o r a b n).choose,fun o r a b n=>(h o r a b n).choose_spec.1,fun o r a b n=>(h o r a b n).choose_spec.2⟩
theorem words_set {m:List Int} {i:Nat} {v:Int} (h: ∀x∈m,wordX x) (hv:wordX v): ∀x∈m.set i v,wordX x:=fun x hx=>by
 rcases List.mem_or_eq_of_mem_set hx with hx|rfl
 ·exact h x hx
 ·exact hv
theorem words_snoc {m:List Int} {v:Int} (h: ∀x∈m,wordX x) (hv:wordX v): ∀x∈m++[v],wordX x:=fun x hx=>by
 rcases List.mem_append.1 hx with hx|hx
 ·exact h x hx
 ·rw [List.mem_singleton] at hx;subst hx;exact hv
theorem drawMemW_l1 (c:List Int) (i s:Int) (T:List S57) (hT:T.length=4): ∀(k j:Nat) (m:List Int),m.length=24→(∀x∈m,wordX x)→j≤4→4<j+k→∃m',spec_l9DrawMem.l1 k m T (j:Int) c i s=some (m',i,s)∧m'.length=24∧∀x∈m',wordX x
 |0,j,m,_,_,h1,h2=>by omega
 |k+1,j,m,hm,hw,h1,h2=>by
  obtain ⟨cf,hcf,hcw⟩:=specCodeW_fn
  rw [spec_l9DrawMem.l1]
  by_cases h:j<4
  ·rw [if_pos (by omega),if_pos (by omega),hcf,Option.bind_some,if_pos (by omega),wrap_succ (by omega)]
   exact drawMemW_l1 c i s T hT k (j+1) _ (by simpa using hm) (words_set hw (hcw _ _ _ _ _)) (by omega) (by omega)
  ·rw [if_neg (by omega)];exact ⟨m,rfl,hm,hw⟩
theorem drawMemW_l2 (c:List Int) (i s:Int) (T:List S57) (hT:T.length=4): ∀(k j:Nat) (m:List Int),m.length=24→(∀x∈m,wordX x)→j≤4→4<j+k→∃m',spec_l9DrawMem.l2 k m T (j:Int) c i s=some (m',i,s)∧m'.length=24∧∀x∈m',wordX x
 |0,j,m,_,_,h1,h2=>by omega
 |k+1,j,m,hm,hw,h1,h2=>by
  obtain ⟨cf,hcf,hcw⟩:=specCodeW_fn
  rw [spec_l9DrawMem.l2]
  by_cases h:j<4
  ·rw [if_pos (by omega),if_pos (by omega),hcf,Option.bind_some,if_pos (by omega),wrap_succ (by omega)]
   exact drawMemW_l2 c i s T hT k (j+1) _ (by simpa using hm) (words_set hw (hcw _ _ _ _ _)) (by omega) (by omega)
  ·rw [if_neg (by omega)];exact ⟨m,rfl,hm,hw⟩
theorem drawMemW_l0 (c:List Int): ∀(k j:Nat) (m:List Int) (i s:Int),curOk c i→m.length=j→(∀x∈m,wordX x)→j≤24→40<j+k→∃m' i' s',spec_l9DrawMem.l0 k m (j:Int) c i s=some (m',i',s')∧m'.length=24∧(∀x∈m',wordX x)∧curOk c i'
 |0,j,m,i,s,_,_,_,h1,h2=>by omega
 |k+1,j,m,i,s,hc,hm,hw,h1,h2=>by
  obtain ⟨cf,hcf,hcw⟩:=specCodeW_fn
  have pick: ∀v:Int,v∈([0,1,5,65535]:List Int)→wordX v:=fun v hv=>by
   simp only [List.mem_cons,List.mem_nil_iff,or_false,List.not_mem_nil] at hv
   unfold wordX;omega
  rw [spec_l9DrawMem.l0]
  by_cases h:j<24
  ·obtain ⟨o,r,a,b,n,i1,s1,e1,c1⟩:=drawIns_ex c i s hc k (by omega)
   rw [if_pos (by omega),e1,Option.bind_some,hcf,Option.bind_some]
   obtain ⟨v2,i2,s2,e2,p2,c2⟩:=l1PickInt_ex c i1 s1 c1 [0,1,5,65535] (by simp) (by simp)
   obtain ⟨v3,i3,s3,e3,c3⟩:=l1Once_ex c i1 s1 c1 9 (by omega) (by omega)
   obtain ⟨v4,i4,s4,e4,p4,c4⟩:=l1PickInt_ex c i3 s3 c3 [0,1,5,65535] (by simp) (by simp)
   have next: ∀(x:Int) i s,wordX x→curOk c i→∃m' i' s',(if m.length<17592186044416 then (spec_l9DrawMem.l0 k (m++[x]) (wrap64 ((j:Int)+1)) c i s) else none)=some (m',i',s')∧m'.length=24∧(∀x∈m',wordX x)∧curOk c i':=by
    intro x i s hx hc
    rw [if_pos (by omega),wrap_succ (by omega)]
    exact drawMemW_l0 c k (j+1) _ i s hc (by simp;omega) (words_snoc hw hx) (by omega) (by omega)
   by_cases h15:(j:Int)>15
   ·rw [if_pos h15]
    simp only [e2,Option.bind_some];exact next _ _ _ (pick _ p2) c2
   ·rw [if_neg h15]
    simp only [e3,Option.bind_some]
    by_cases hv:v3=true
    ·rw [if_pos hv]
     simp only [e4,Option.bind_some];exact next _ _ _ (pick _ p4) c4
    ·rw [if_neg hv];exact next _ _ _ (hcw _ _ _ _ _) c3
  ·obtain ⟨v,i1,s1,e1,_,_,c1⟩:=l1Below_ex c i s hc 4 (by omega) (by omega)
   rw [if_neg (by omega),e1,Option.bind_some]
   by_cases h0:v=0
   ·obtain ⟨m',e,hl,hw'⟩:=drawMemW_l1 c i1 s1 [⟨1,1,0,0,1⟩,⟨6,2,0,1,20⟩,⟨10,3,2,1,0⟩,⟨8,0,0,0,1⟩] rfl k 0 m (by omega) hw (by omega) (by omega)
    rw [if_pos h0];exact ⟨_,_,_,e,hl,hw',c1⟩
   ·rw [if_neg h0]
    by_cases h1:v=1
    ·obtain ⟨m',e,hl,hw'⟩:=drawMemW_l2 c i1 s1 [⟨4,1,0,0,8⟩,⟨3,1,1,0,1⟩,⟨5,0,0,1,8⟩,⟨8,0,0,0,8⟩] rfl k 0 m (by omega) hw (by omega) (by omega)
     rw [if_pos h1];exact ⟨_,_,_,e,hl,hw',c1⟩
    ·rw [if_neg h1];exact ⟨_,_,_,rfl,by omega,hw,c1⟩
theorem drawMemW_ex (c:List Int) (i s:Int) (h:curOk c i) (k:Nat) (hk:50<k): ∃m i' s',spec_l9DrawMem.f k c i s=some (m,i',s')∧wordsB m 24=true∧curOk c i':=by
 obtain ⟨m,i1,s1,e,hl,hw,hc⟩:=drawMemW_l0 c k 0 [] i s h rfl (by simp) (by omega) (by omega)
 refine ⟨m,i1,s1,e,?_,hc⟩
 unfold wordsB
 rw [decide_eq_true (by omega),Bool.true_and,List.all_eq_true]
 exact fun x hx=>decide_eq_true (hw x hx)
theorem l9Addr_eq (x:Int):spec_l9Address.f x=some (x % 24):=by
 unfold spec_l9Address.f
 have hb:=tmod_bd x 24 (by omega)
 have hu:=tmod_up x 24 (by omega) (by omega)
 generalize x.tmod 24=t at hb hu ⊢
 rw [←hu]
 by_cases c:t<0
 ·rw [if_pos c,wrap_small (by omega) (by omega),tmod_pos _ _ (by omega),Int.emod_eq_of_lt (by omega) (by omega)]
 ·rw [if_neg c,tmod_pos _ _ (by omega),Int.add_emod_right,Int.emod_eq_of_lt (by omega) (by omega)]
theorem specHartNew_eq (x:Int):spec_HartNew.f x=some ([0,0,0,0],x % 24,0):=by
 unfold spec_HartNew.f
 rw [l9Addr_eq];rfl
theorem newHart_ok (x:Int):hartB [0,0,0,0] (x % 24) 0=true:=by
 have h1:0≤x % 24∧x % 24≤23:=by omega
 unfold hartB wordsB
 rw [decide_eq_true h1];rfl
theorem drawHart_l0 (c:List Int) (pc st:Int): ∀(d j:Nat) (r:List Int) (i s:Int) (k:Nat),curOk c i→r.length=4→j+d=4→d<k→∃r' p' t' i' s',spec_l9DrawHart.l0 k (j:Int) c i s r pc st=some (r',p',t',i',s')∧r'.length≤4∧curOk c i'
 |0,j,r,i,s,k,h,hr,hj,hk=>by
  obtain ⟨k,rfl⟩: ∃q,k=q+1:=⟨k-1,by omega⟩
  obtain ⟨v,i1,s1,e1,_,_,c1⟩:=l1Below_ex c i s h 12 (by omega) (by omega)
  obtain ⟨v2,i2,s2,e2,_,_,c2⟩:=l1Below_ex c i1 s1 c1 5 (by omega) (by omega)
  obtain ⟨v3,i3,s3,e3,_,c3⟩:=l1PickInt_ex c i1 s1 c1 [(-1),65536] (by simp) (by simp)
  obtain ⟨v4,i4,s4,e4,_,c4⟩:=l1PickInt_ex c i1 s1 c1 [(-1),24] (by simp) (by simp)
  simp only [spec_l9DrawHart.l0]
  rw [if_neg (by omega)]
  simp only [e1,e2,e3,e4,Option.bind_some]
  by_cases h0:v=0
  ·rw [if_pos h0];exact ⟨_,_,_,_,_,rfl,by omega,c2⟩
  ·rw [if_neg h0]
   by_cases h1:v=1
   ·rw [if_pos h1,if_pos (by omega)];exact ⟨_,_,_,_,_,rfl,by rw [List.length_set];omega,c3⟩
   ·rw [if_neg h1]
    by_cases h2:v=2
    ·rw [if_pos h2];exact ⟨_,_,_,_,_,rfl,by omega,c4⟩
    ·rw [if_neg h2]
     by_cases h3:v=3
     ·rw [if_pos h3,if_pos (by omega)];exact ⟨_,_,_,_,_,rfl,by rw [List.length_drop];omega,c1⟩
     ·rw [if_neg h3];exact ⟨_,_,_,_,_,rfl,by omega,c1⟩
 |d+1,j,r,i,s,k,h,hr,hj,hk=>by
  obtain ⟨k,rfl⟩: ∃q,k=q+1:=⟨k-1,by omega⟩
  obtain ⟨v,i1,s1,e1,_,c1⟩:=l1PickInt_ex c i s h [0,1,2,20,65535] (by simp) (by simp)
  simp only [spec_l9DrawHart.l0]
  rw [if_pos (by omega),e1,Option.bind_some,if_pos (by omega),if_pos (by omega),wrap_succ (by omega)]
  exact drawHart_l0 c pc st d (j+1) _ i1 s1 k c1 (by rw [List.length_set];exact hr) (by omega) (by omega)
theorem drawHart_ex (c:List Int) (i s:Int) (h:curOk c i) (k:Nat) (hk:10<k): ∃r p t i' s',spec_l9DrawHart.f k c i s=some (r,p,t,i',s')∧r.length≤4∧curOk c i':=by
 unfold spec_l9DrawHart.f
 obtain ⟨v,i1,s1,e1,_,_,c1⟩:=l1Below_ex c i s h 20 (by omega) (by omega)
 rw [e1,Option.bind_some,specHartNew_eq,Option.bind_some]
 exact drawHart_l0 c _ _ 4 0 _ i1 s1 k c1 rfl (by omega) (by omega)
def runOk (m:List Int) (hs:List S72) (o:List Int):Prop:=wordsB m 24=true∧(1≤hs.length∧hs.length≤3)∧(∀h∈hs,hartB h.f0 h.f1 h.f2=true)∧o.length≤100∧∀x∈o,0≤x∧x<(hs.length:Int)
theorem drawRun_l1 (c:List Int) (most:Int) (hmost:1≤most∧most≤100) (m:List Int) (hs:List S72) (hm:wordsB m 24=true) (hl:1≤hs.length∧hs.length≤3) (hh: ∀h∈hs,hartB h.f0 h.f1 h.f2=true): ∀(d j:Nat) (o:List Int) (i s:Int) (k:Nat),curOk c i→o.length=j→(∀x∈o,0≤x∧x<(hs.length:Int))→j+d=100→10+d<k→
  ∃o' i' s',spec_l18DrawRun.l1 k most m hs o (j:Int) c i s=some (m,hs,o',i',s')∧runOk m hs o'∧curOk c i'
 |d,j,o,i,s,k,h,hj,ho,hd,hk=>by
  obtain ⟨k,rfl⟩: ∃q,k=q+1:=⟨k-1,by omega⟩
  obtain ⟨v,i1,s1,e1,p1,q1,c1⟩:=l1Below_ex c i s h most (by omega) (by omega)
  simp only [spec_l18DrawRun.l1]
  rw [e1,Option.bind_some]
  dsimp only
  by_cases hc:(j:Int)<v
  ·match d,hd,hk with
   |0,hd,_=>omega
   |d+1,hd,hk=>
    obtain ⟨v2,i2,s2,e2,p2,q2,c2⟩:=l1Below_ex c i1 s1 c1 (hs.length:Int) (by omega) (by omega)
    rw [if_pos hc,e2,Option.bind_some]
    dsimp only
    rw [if_pos (by omega),wrap_succ (by omega)]
    exact drawRun_l1 c most hmost m hs hm hl hh d (j+1) _ i2 s2 k c2 (by rw [List.length_append,hj];rfl) (fun x hx=>by
     rcases List.mem_append.1 hx with hx|hx
     ·exact ho x hx
     ·rw [List.mem_singleton] at hx;subst hx;exact ⟨p2,q2⟩) (by omega) (by omega)
  ·rw [if_neg hc]
   exact ⟨_,_,_,rfl,⟨hm,hl,hh,by omega,ho⟩,c1⟩
theorem drawRun_l0 (c:List Int) (most:Int) (hmost:1≤most∧most≤100) (m:List Int) (hm:wordsB m 24=true): ∀(d j:Nat) (hs:List S72) (i s:Int) (k:Nat),curOk c i→hs.length=j→(∀h∈hs,hartB h.f0 h.f1 h.f2=true)→j+d=3→300+d<k→
  ∃hs' o' i' s',spec_l18DrawRun.l0 k most m hs (j:Int) c i s=some (m,hs',o',i',s')∧runOk m hs' o'∧curOk c i'
 |d,j,hs,i,s,k,h,hj,hh,hd,hk=>by
  obtain ⟨k,rfl⟩: ∃q,k=q+1:=⟨k-1,by omega⟩
  obtain ⟨v,i1,s1,e1,p1,q1,c1⟩:=l1Below_ex c i s h 3 (by omega) (by omega)
  simp only [spec_l18DrawRun.l0]
  rw [e1,Option.bind_some]
  dsimp only
  rw [wrap_small (x:=1+v) (by omega) (by omega)]
  by_cases hc:(j:Int)<1+v
  ·match d,hd,hk with
   |0,hd,_=>omega
   |d+1,hd,hk=>
    obtain ⟨r,p,t,i2,s2,e2,hr,c2⟩:=drawHart_ex c i1 s1 c1 k (by omega)
    rw [if_pos hc,e2,Option.bind_some]
    dsimp only
    rw [specHartOk_eq r p t (by omega) k (by omega),Option.bind_some]
    have more: ∀(z:S72) (i s:Int),hartB z.f0 z.f1 z.f2=true→curOk c i→∃hs' o' i' s',spec_l18DrawRun.l0 k most m (hs++[z]) ((j+1:Nat):Int) c i s=some (m,hs',o',i',s')∧runOk m hs' o'∧curOk c i':=fun z i s hz hci=>
     drawRun_l0 c most hmost m hm d (j+1) _ i s k hci (by rw [List.length_append,hj];rfl) (fun x hx=>by
      rcases List.mem_append.1 hx with hx|hx
      ·exact hh x hx
      ·rw [List.mem_singleton] at hx;subst hx;exact hz) (by omega) (by omega)
    by_cases hb:hartB r p t=true
    ·rw [if_pos hb,if_pos (by omega),wrap_succ (by omega)]
     exact more _ _ _ hb c2
    ·obtain ⟨v3,i3,s3,e3,_,_,c3⟩:=l1Below_ex c i2 s2 c2 20 (by omega) (by omega)
     rw [if_neg hb,e3,Option.bind_some,specHartNew_eq,Option.bind_some,if_pos (by omega),wrap_succ (by omega)]
     exact more _ _ _ (newHart_ok _) c3
  ·rw [if_neg hc]
   obtain ⟨o',i2,s2,e2,hok,c2⟩:=drawRun_l1 c most hmost m hs hm (by omega) hh 100 0 [] i1 s1 k c1 rfl (by simp) (by omega) (by omega)
   exact ⟨_,_,_,_,e2,hok,c2⟩
theorem drawRun_ex (c:List Int) (i s:Int) (h:curOk c i) (most:Int) (hmost:1≤most∧most≤100) (k:Nat) (hk:400<k): ∃m hs o i' s',spec_l18DrawRun.f k c i s most=some (m,hs,o,i',s')∧runOk m hs o∧curOk c i':=by
 unfold spec_l18DrawRun.f
 obtain ⟨m,i1,s1,e1,hm,c1⟩:=drawMemW_ex c i s h k (by omega)
 rw [e1,Option.bind_some]
 dsimp only
 obtain ⟨hs,o,i2,s2,e2,hok,c2⟩:=drawRun_l0 c most hmost m hm 3 0 [] i1 s1 k c1 rfl (by simp) (by omega) (by omega)
 exact ⟨_,_,_,_,_,e2,hok,c2⟩
theorem drawSteps_ex (c:List Int) (hc:c.length≤1048576) (k:Nat) (hk:10000<k): ∃m hs o,spec_DrawSteps.f k c=some (m,hs,o)∧runOk m hs o:=by
 unfold spec_DrawSteps.f spec_l1Long.f
 obtain ⟨i0,s0,e0,c0⟩:=l1New_ex c hc k (by omega)
 rw [e0,Option.bind_some]
 have hd:0≤(c.length:Int) / 4∧(c.length:Int) / 4≤1048576:=by omega
 rw [wrap_small (x:=(c.length:Int) / 4) (by omega) (by omega),wrap_small (x:=40+(c.length:Int) / 4) (by omega) (by omega)]
 by_cases hb:40+(c.length:Int) / 4>80
 ·obtain ⟨m,hs,o,i1,s1,e1,hok,_⟩:=drawRun_ex c i0 s0 c0 80 (by omega) k (by omega)
  rw [if_pos hb,Option.bind_some]
  dsimp only
  rw [e1,Option.bind_some]
  exact ⟨_,_,_,rfl,hok⟩
 ·obtain ⟨m,hs,o,i1,s1,e1,hok,_⟩:=drawRun_ex c i0 s0 c0 (40+(c.length:Int) / 4) (by omega) k (by omega)
  rw [if_neg hb,Option.bind_some]
  dsimp only
  rw [e1,Option.bind_some]
  exact ⟨_,_,_,rfl,hok⟩
theorem drawEvent_ex (c:List Int) (i s:Int) (h:curOk c i): ∃a b d e f i' s',spec_l19DrawEvent.f c i s=some (a,b,d,e,f,i',s')∧evD ⟨a,b,d,e,f⟩∧curOk c i':=by
 unfold spec_l19DrawEvent.f evD
 obtain ⟨v0,i0,s0,e0,p0,q0,c0⟩:=l1Below_ex c i s h 3 (by omega) (by omega)
 obtain ⟨v1,i1,s1,e1,p1,q1,c1⟩:=l1Below_ex c i0 s0 c0 6 (by omega) (by omega)
 obtain ⟨v2,i2,s2,e2,p2,q2,c2⟩:=l1Below_ex c i1 s1 c1 4 (by omega) (by omega)
 obtain ⟨v3,i3,s3,e3,p3,q3,c3⟩:=l1Below_ex c i2 s2 c2 6 (by omega) (by omega)
 obtain ⟨v4,i4,s4,e4,p4,q4,c4⟩:=l1Below_ex c i3 s3 c3 4 (by omega) (by omega)
 obtain ⟨v5,i5,s5,e5,p5,q5,c5⟩:=l1Below_ex c i4 s4 c4 4 (by omega) (by omega)
 simp only [e0,e1,e2,e3,e4,e5,Option.bind_some]
 by_cases h0:v2=0
 ·rw [if_pos h0];exact ⟨_,_,_,_,_,_,_,rfl,by (try dsimp only);omega,c4⟩
 rw [if_neg h0]
 by_cases h1:v2=1
 ·rw [if_pos h1];exact ⟨_,_,_,_,_,_,_,rfl,by (try dsimp only);omega,c4⟩
 rw [if_neg h1]
 by_cases h2:v2=2
 ·rw [if_pos h2];exact ⟨_,_,_,_,_,_,_,rfl,by (try dsimp only);omega,c5⟩
 rw [if_neg h2];exact ⟨_,_,_,_,_,_,_,rfl,by (try dsimp only);omega,c2⟩
theorem draw20_l0 (c:List Int): ∀(d j:Nat) (l:List Ev) (i s:Int) (k:Nat),curOk c i→l.length=j→(∀x∈l,evD x)→j+d=9→100+d<k→
  ∃n l' i' s',spec_l20Draw.l0 k l (j:Int) c i s=some (n,l',i',s')∧(n=3∨n=2∨n=8∨n=9∨n=0∨n= -1)∧l'.length≤100∧(∀x∈l',evD x)∧curOk c i'
 |d,j,l,i,s,k,h,hj,hx,hd,hk=>by
  obtain ⟨k,rfl⟩: ∃q,k=q+1:=⟨k-1,by omega⟩
  obtain ⟨v,i1,s1,e1,p1,q1,c1⟩:=l1Below_ex c i s h 9 (by omega) (by omega)
  rw [spec_l20Draw.l0,e1,Option.bind_some]
  dsimp only
  by_cases hc:(j:Int)<v
  ·obtain ⟨d,rfl⟩: ∃q,d=q+1:=⟨d-1,by omega⟩
   obtain ⟨a,b,d1,e,f,i2,s2,e2,ho,c2⟩:=drawEvent_ex c i1 s1 c1
   rw [if_pos hc,e2,Option.bind_some,if_pos (by omega)]
   dsimp only
   rw [wrap_succ (by omega)]
   refine draw20_l0 c d (j+1) _ i2 s2 k c2 (by simp [hj]) (fun x hx'=>?_) (by omega) (by omega)
   rcases List.mem_append.1 hx' with q|q
   ·exact hx x q
   ·rw [List.mem_singleton.1 q];exact ho
  ·rw [if_neg hc]
   obtain ⟨v2,i3,s3,e3,hm,c3⟩:=l1PickInt_ex c i1 s1 c1 [3,3,3,2,8,9,0,(-1)] (by simp) (by simp)
   rw [e3,Option.bind_some]
   exact ⟨_,_,_,_,rfl,by simpa using hm,by omega,hx,c3⟩
theorem draw20_ex (c:List Int) (i s:Int) (h:curOk c i) (k:Nat) (hk:4000000<k): ∃n l i' s',spec_l20Draw.f k c i s=some (n,l,i',s')∧(-1≤n∧n≤9)∧l.length≤100∧(∀x∈l,evD x)∧curOk c i':=by
 unfold spec_l20Draw.f
 obtain ⟨on,i1,s1,e1,c1⟩:=l1Once_ex c i s h 2 (by omega) (by omega)
 rw [e1,Option.bind_some]
 dsimp only
 by_cases h0:on=true
 ·rw [if_pos h0]
  obtain ⟨m,hs,o,i2,s2,e2,hok,c2⟩:=drawRun_ex c i1 s1 c1 20 (by omega) k (by omega)
  obtain ⟨hw,hl,hh,ho,hin⟩:=hok
  rw [e2,Option.bind_some]
  dsimp only
  have tl:=traceV_len o (m,hs)
  rw [specTrace_eq m hs o hw (by omega) (fun x hx=>by have:=(hartB_parts (hh x hx)).1;omega) k (by omega),if_pos (by omega),Option.bind_some]
  exact ⟨_,_,_,_,rfl,by omega,by omega,traceV_ok o (m,hs) hw hl.2,c2⟩
 ·rw [if_neg h0]
  obtain ⟨n,l,i2,s2,e2,hn,hl,hx,c2⟩:=draw20_l0 c 9 0 [] i1 s1 k c1 rfl (by simp) (by omega) (by omega)
  exact ⟨_,_,_,_,e2,by omega,hl,hx,c2⟩
theorem drawByHart_ex (c:List Int) (hc:c.length≤1048576) (k:Nat) (hk:4000000<k): ∃n l,spec_DrawByHart.f k c=some (n,l)∧(-1≤n∧n≤9)∧l.length≤100∧∀x∈l,evD x:=by
 unfold spec_DrawByHart.f
 obtain ⟨i0,s0,e0,c0⟩:=l1New_ex c hc k (by omega)
 rw [e0,Option.bind_some]
 obtain ⟨n,l,i1,s1,e1,hn,hl,hx,_⟩:=draw20_ex c i0 s0 c0 k hk
 dsimp only
 rw [e1,Option.bind_some]
 exact ⟨_,_,rfl,hn,hl,hx⟩
theorem implEventOf_eq (m:List Int) (h:Hh) (who:Int) (hm:m.length=24) (hh:hB h=true) (k:Nat) (hk:20<k):impl_eventOf.f k m h.f0 h.f1 h.f2 who=some ((eventV m h who).f0,(eventV m h who).f1,(eventV m h who).f2,(eventV m h who).f3,(eventV m h who).f4):=by
 obtain ⟨p1,p2,p3,p4⟩:=hartB_parts hh
 unfold impl_eventOf.f eventV
 rw [if_pos p3.1,if_pos (by omega),implDecode_eq,Option.bind_some,implTarget_eq,Option.bind_some]
 have eT:targetV (decodeV (rd m h.f1)).1 (decodeV (rd m h.f1)).2.1 (decodeV (rd m h.f1)).2.2.1 (decodeV (rd m h.f1)).2.2.2.1 (decodeV (rd m h.f1)).2.2.2.2.1 h.f0=tgtV m h:=rfl
 rw [eT]
 have t:tgtV m h= -1∨0≤tgtV m h∧tgtV m h≤23:=tgt_range _ _ _ _ _ _
 rcases t with t|t
 ·have ht:tgtV m h<0:=by omega
  simp only [if_pos ht]
 ·have e:gotV m h=rd m (tgtV m h):=by
   show (if 0≤tgtV m h then rd m (tgtV m h) else 0)=_
   rw [if_pos t.1]
  have ew:workV h.f0 h.f1 h.f2 (decodeV (rd m h.f1)).1 (decodeV (rd m h.f1)).2.1 (decodeV (rd m h.f1)).2.2.1 (decodeV (rd m h.f1)).2.2.2.1 (decodeV (rd m h.f1)).2.2.2.2.1 (rd m (tgtV m h))=wkV m h:=by unfold wkV;rw [e]
  have ht: ¬tgtV m h<0:=by omega
  have h0:tgtV m h<(m.length:Int):=by omega
  simp only [if_neg ht,if_pos t.1,if_pos h0]
  rw [implWork_eq _ _ _ _ _ _ _ _ _ (by omega) k (by omega),Option.bind_some,ew]
  by_cases c5:(decodeV (rd m h.f1)).1=5
  ·simp only [if_pos c5]
  ·simp only [if_neg c5]
theorem implTrace_eq (m:List Int) (hs:List Hh) (o:List Int) (w:wordsB m 24=true) (hn:hs.length≤2097152) (hb:shortH hs) (k:Nat) (hk:3000002<k):
  impl_Trace.f k m hs o=some (if o.length≤2000 then traceV (m,hs) o else []):=by
 have l24:=wordsB_24 w
 unfold impl_Trace.f
 rw [Option.bind_some]
 obtain ⟨k,rfl⟩: ∃j,k=j+2:=⟨k-2,by omega⟩
 by_cases ho:o.length≤2000
 ·obtain ⟨C,hC⟩: ∃C:Nat,C=2200000:=⟨_,rfl⟩
  rw [if_neg (by omega),memOk_eq m (by omega) _ (by omega),Option.bind_some,w,Bool.not_true,impl_Trace.j0,if_neg (by simp)]
  unfold slices_Clone_int_int.f
  rw [if_pos (by omega),Option.bind_some,copyHarts_eq hs hn hb _ (by omega),Option.bind_some,if_pos ho]
  have h:=for_st o.length (fun k' i (s:List Ev×List Int×List Hh)=>impl_Trace.l0 (2*k'+C) s.2.1 s.2.2 s.1 o (o.length:Int) (i:Int)) (fun i=>(traceV (m,hs) (o.take i),runV m hs (o.take i))) (traceV (m,hs) o) ?_ ?_ ((k+2-C) / 2-1) 0 (Nat.zero_le _) (by omega)
  ·obtain ⟨d,hd⟩: ∃d,k+1=2*((k+2-C) / 2-1)+C+d:=⟨k+1-(2*((k+2-C) / 2-1)+C),by omega⟩
   rw [hd]
   clear hd
   simp only [List.take_zero] at h
   induction d with
   |zero=>exact h
   |succ d ih=>exact (impl_Trace.mono_l _).2.1 _ _ _ _ _ _ _ ih
  ·intro k' i hi
   rw [show 2*(k'+1)+C=(2*k'+C)+1+1 by omega]
   have e:runV m hs (o.take (i+1))=nextV (runV m hs (o.take i)) o[i]:=by rw [←snoc_step o i hi,runV_snoc]
   have et:traceV (m,hs) (o.take (i+1))=traceV (m,hs) (o.take i)++ev1 (runV m hs (o.take i)) o[i]:=by
    rw [←snoc_step o i hi,traceV_snoc];rfl
   have tl:=traceV_len (o.take i) (m,hs)
   rw [List.length_take] at tl
   have hl:=runV_len m hs (o.take i)
   have hsh:=runV_short m hs (o.take i) hb
   dsimp only
   rw [e,et]
   generalize traceV (m,hs) (o.take i)=T at tl ⊢
   generalize runV m hs (o.take i)=s at hl hsh ⊢
   simp only [impl_Trace.l0]
   rw [if_pos (by omega),if_pos (by omega),if_pos (by omega),rd_nat o i hi,from_eq,Option.bind_some,wrap_small (by omega) (by omega)]
   unfold nextV ev1
   by_cases c:0≤o[i]∧o[i]≤(s.2.length:Int)-1
   ·have hsi:=hsh _ (rdH_mem _ _ c.1 (by omega:o[i]<(s.2.length:Int)))
    rw [if_pos (decide_eq_true c),if_pos c.1,if_pos (by omega),implGoes_eq _ hsi _ (by omega),Option.bind_some]
    by_cases g:goB (rd_T72 s.2 o[i])=true
    ·have g2:hB (rd_T72 s.2 o[i])=true:=by unfold goB at g;rw [Bool.and_eq_true] at g;exact g.1
     have mg:mayGo s.2 o[i]:=⟨c.1,by omega,g⟩
     simp only [impl_Trace.j2]
     rw [if_pos g,if_pos c.1,if_pos (by omega),implEventOf_eq _ _ _ (by omega) g2 _ (by omega),Option.bind_some,if_pos (by omega),implStep_eq _ _ (by omega) g2 _ (by omega),Option.bind_some,if_pos mg,if_pos mg,wrap_succ (by omega)]
    ·have mg: ¬mayGo s.2 o[i]:=fun q=>g q.2.2
     simp only [impl_Trace.j2]
     rw [if_neg g,if_neg mg,if_neg mg,List.append_nil,wrap_succ (by omega)]
   ·simp only [impl_Trace.j2]
    rw [if_neg (by simpa using c),if_neg (by simp),if_neg (fun x=>c ⟨x.1,by have:=x.2.1;omega⟩),if_neg (fun x=>c ⟨x.1,by have:=x.2.1;omega⟩),List.append_nil,wrap_succ (by omega)]
  ·intro k'
   rw [show 2*(k'+1)+C=(2*k'+C)+1+1 by omega,List.take_of_length_le (Nat.le_refl _)]
   rw [impl_Trace.l0,if_neg (by omega)]
 ·rw [if_pos (by omega),impl_Trace.j0,if_pos rfl,if_neg ho]
def validL:List Int→List S74→Prop
 |_,[]=>True
 |m,e :: l=>(e.f2<0∧validL m l)∨(0≤e.f2∧okD m ⟨e.f2,e.f3,e.f4⟩=true∧validL (putD m ⟨e.f2,e.f3,e.f4⟩) l)
theorem validL_take: ∀(l:List S74) (m:List Int) (k:Nat),validL m l→validL m (l.take k)
 |[],m,k,h=>by simpa [List.take_nil] using h
 |e :: l,m,0,h=>trivial
 |e :: l,m,k+1,h=>by
  rw [List.take_succ_cons]
  rcases h with ⟨h1,h2⟩|⟨h1,h2,h3⟩
  ·exact .inl ⟨h1,validL_take l m k h2⟩
  ·exact .inr ⟨h1,h2,validL_take l _ k h3⟩
def filtL (w:Int):List S74→List S37
 |[]=>[]
 |e :: l=>if e.f0=w∧e.f2≥0 then ⟨e.f2,e.f3,e.f4⟩ :: filtL w l else filtL w l
theorem filtL_append (w:Int): ∀(l r:List S74),filtL w (l++r)=filtL w l++filtL w r
 |[],r=>rfl
 |e :: l,r=>by
  rw [List.cons_append,filtL,filtL,filtL_append w l r]
  split
  ·rfl
  ·rfl
def allL (n:Nat) (l:List S74):List (List S37):=(List.range n).map fun (w:Nat)=>filtL (w:Int) l
theorem allL_length (n:Nat) (l:List S74):(allL n l).length=n:=by simp [allL]
theorem allL_get (n:Nat) (l:List S74) (i:Nat) (h:i<n):(allL n l)[i]'(by rw [allL_length];exact h)=filtL (i:Int) l:=by simp [allL]
theorem allL_skip (n:Nat) (e:S74) (l:List S74) (h:e.f2<0):allL n (e :: l)=allL n l:=by
 unfold allL
 refine List.map_congr_left (fun w _=>?_)
 rw [filtL,if_neg (by omega)]
theorem allL_set (n:Nat) (e:S74) (l:List S74) (i:Nat) (hi:i<n) (hw:e.f0=(i:Int)) (h:0≤e.f2):allL n (e :: l)=(allL n l).set i (⟨e.f2,e.f3,e.f4⟩ :: filtL (i:Int) l):=by
 refine List.ext_getElem (by simp [allL_length]) (fun j h1 h2=>?_)
 rw [allL_length] at h1
 rw [List.getElem_set,allL_get n _ j h1,filtL]
 by_cases c:i=j
 ·subst c;rw [if_pos ⟨hw,h⟩,if_pos rfl]
 ·rw [if_neg (fun q=>c (by have:=q.1;omega)),if_neg c,allL_get n l j h1]
theorem someB_trace (n:Nat): ∀(l:List S74) (m:List Int),validL m l→(∀e∈l,0≤e.f0∧e.f0<(n:Int))→someB (tot (allL n l)) m (allL n l)=true
 |[],m,_,_=>by
  have:tot (allL n [])=0:=tot_nil _ (fun x hx=>by
   obtain ⟨w,_,rfl⟩:=List.mem_map.1 hx;rfl)
  rw [this];rfl
 |e :: l,m,hv,hw=>by
  have hwl:=fun x hx=>hw x (List.mem_cons_of_mem _ hx)
  rcases hv with ⟨h1,h2⟩|⟨h1,h2,h3⟩
  ·rw [allL_skip n e l h1];exact someB_trace n l m h2 hwl
  ·obtain ⟨h4,h5⟩:=hw e (List.mem_cons_self ..)
   obtain ⟨i,hi⟩:=Int.eq_ofNat_of_zero_le h4
   have hin:i<n:=by omega
   have ih:=someB_trace n l _ h3 hwl
   have hset:=allL_set n e l i hin hi h1
   have hlen:i<(allL n (e :: l)).length:=by rw [allL_length];exact hin
   have hget:(allL n (e :: l))[i]=⟨e.f2,e.f3,e.f4⟩ :: filtL (i:Int) l:=by
    rw [allL_get n _ i hin,filtL,if_pos ⟨hi,h1⟩]
   have hback:(allL n (e :: l)).set i (filtL (i:Int) l)=allL n l:=by
    rw [hset,List.set_set]
    refine List.ext_getElem (by simp) (fun j q1 q2=>?_)
    rw [List.getElem_set]
    split
    ·next c=>subst c;rw [allL_get n l i hin]
    ·rfl
   have ht:=tot_set (allL n (e :: l)) i hlen _ _ hget
   rw [hback] at ht
   rw [ht,someB_succ,List.any_eq_true]
   refine ⟨i,by rw [List.mem_range'_1];omega,?_⟩
   rw [tryB_cons (d:=⟨e.f2,e.f3,e.f4⟩) (t:=filtL (i:Int) l) (by rw [List.getD_eq_getElem?_getD,List.getElem?_eq_getElem hlen,Option.getD_some,hget]),h2,Bool.true_and,hback]
   exact ih
theorem trace_valid: ∀(o:List Int) (s:List Int×List Hh),wordsB s.1 24=true→validL s.1 (traceV s o)
 |[],s,_=>trivial
 |i :: o,s,hw=>by
  rw [traceV]
  by_cases c:mayGo s.2 i
  ·rw [if_pos c]
   have hn:nextV s i=((stepV s.1 (rd_T72 s.2 i)).1,s.2.set i.toNat (stepV s.1 (rd_T72 s.2 i)).2):=by unfold nextV;rw [if_pos c]
   have ih:=trace_valid o (nextV s i) (nextV_words s i hw)
   generalize hh:rd_T72 s.2 i=h at hn ⊢
   have hm1:(nextV s i).1=if 0≤(wkV s.1 h).2.2.2 then s.1.set (tgtV s.1 h).toNat (wkV s.1 h).2.2.2 else s.1:=by rw [hn];rfl
   have hp:0≤(wkV s.1 h).2.2.2→0≤tgtV s.1 h:=fun q=>put_tgt q
   have ht:tgtV s.1 h= -1∨0≤tgtV s.1 h∧tgtV s.1 h≤23:=tgt_range _ _ _ _ _ _
   rcases ht with ht|ht
   ·have e:eventV s.1 h i=⟨i,h.f1,tgtV s.1 h,-1,-1⟩:=by unfold eventV;rw [if_pos (by omega)]
    rw [e]
    rw [if_neg (fun q=>by have:=hp q;omega)] at hm1
    rw [hm1] at ih
    exact .inl ⟨by show tgtV s.1 h<0;omega,ih⟩
   ·have e:eventV s.1 h i=⟨i,h.f1,tgtV s.1 h,if (decodeV (rd s.1 h.f1)).1=5 then-1 else rd s.1 (tgtV s.1 h),(wkV s.1 h).2.2.2⟩:=by unfold eventV;rw [if_neg (by omega)]
    rw [e]
    refine .inr ⟨ht.1,?_,?_⟩
    ·unfold okD
     dsimp only
     rw [decide_eq_true ht,Bool.true_and]
     split
     ·rfl
     ·simp
    ·have e2:putD s.1 ⟨tgtV s.1 h,if (decodeV (rd s.1 h.f1)).1=5 then-1 else rd s.1 (tgtV s.1 h),(wkV s.1 h).2.2.2⟩=(nextV s i).1:=by rw [hm1];rfl
     rw [e2];exact ih
  ·rw [if_neg c];exact trace_valid o s hw
theorem drawDid_ex (c:List Int) (i s:Int) (h:curOk c i) (k:Nat) (hk:5<k): ∃a b d i' s',spec_l21DrawDid.f k c i s=some (a,b,d,i',s')∧a<100∧b<100∧d<100∧curOk c i':=by
 obtain ⟨k,rfl⟩: ∃q,k=q+1:=⟨k-1,by omega⟩
 unfold spec_l21DrawDid.f
 obtain ⟨v0,i0,s0,e0,p0,q0,c0⟩:=l1Below_ex c i s h 2 (by omega) (by omega)
 obtain ⟨b1,i1,s1,e1,c1⟩:=l1Once_ex c i0 s0 c0 2 (by omega) (by omega)
 have hj: ∀(a b d i s:Int),curOk c i→a<100→b<100→d<100→∃a' b' d' i' s',spec_l21DrawDid.j0 (k+1) c i s a b d=some (a',b',d',i',s')∧a'<100∧b'<100∧d'<100∧curOk c i':=by
  intro a b d i s h ha hb hd
  obtain ⟨b2,i2,s2,e2,c2⟩:=l1Once_ex c i s h 12 (by omega) (by omega)
  rw [spec_l21DrawDid.j0,e2,Option.bind_some]
  dsimp only
  by_cases hb2:b2=true
  ·obtain ⟨v3,i3,s3,e3,hm,c3⟩:=l1PickInt_ex c i2 s2 c2 [(-1),24] (by simp) (by simp)
   rw [if_pos hb2,e3,Option.bind_some]
   exact ⟨_,_,_,_,_,rfl,by simp at hm;dsimp only;omega,hb,hd,c3⟩
  ·rw [if_neg hb2]
   exact ⟨_,_,_,_,_,rfl,ha,hb,hd,c2⟩
 rw [e0,Option.bind_some]
 dsimp only
 rw [e1,Option.bind_some]
 dsimp only
 by_cases hb:b1=true
 ·obtain ⟨v2,i2,s2,e2,p2,q2,c2⟩:=l1Below_ex c i1 s1 c1 3 (by omega) (by omega)
  rw [if_pos hb,e2,Option.bind_some]
  exact hj _ _ _ _ _ c2 (by omega) (by omega) (by omega)
 ·obtain ⟨v2,i2,s2,e2,p2,q2,c2⟩:=l1Below_ex c i1 s1 c1 2 (by omega) (by omega)
  rw [if_neg hb,e2,Option.bind_some]
  dsimp only
  rw [wrap_small (x:=1+v2) (by omega) (by omega)]
  exact hj _ _ _ _ _ c2 (by omega) (by omega) (by omega)
def okLs (c:List Int) (o:Option (List Int×List (List S37))):Prop:=∃m ls,o=some (m,ls)∧m.length≤1048576∧ls.length≤1048576∧∀x∈ls,x.length≤1048576
theorem drawSeq_l1 (c:List Int) (j0:Nat) (hj0:j0<3) (k0:Nat) (next: ∀(ls:List (List S37)) (i s:Int) (k:Nat),curOk c i→ls.length=j0+1→(∀x∈ls,x.length≤4)→k0<k→okLs c (spec_DrawSeqOk.l0 k ls ((j0+1:Nat):Int) c i s))
  (ls:List (List S37)) (hls:ls.length=j0) (hx: ∀x∈ls,x.length≤4):
  ∀(d j:Nat) (l:List S37) (i s:Int) (k:Nat),curOk c i→l.length=j→j+d=4→k0+20+d<k→okLs c (spec_DrawSeqOk.l1 k ls (j0:Int) l (j:Int) c i s)
 |d,j,l,i,s,k,h,hj,hd,hk=>by
  obtain ⟨k,rfl⟩: ∃q,k=q+1:=⟨k-1,by omega⟩
  obtain ⟨v,i1,s1,e1,p1,q1,c1⟩:=l1Below_ex c i s h 4 (by omega) (by omega)
  rw [spec_DrawSeqOk.l1,e1,Option.bind_some]
  dsimp only
  by_cases hc:(j:Int)<v
  ·obtain ⟨d,rfl⟩: ∃q,d=q+1:=⟨d-1,by omega⟩
   obtain ⟨a,b,e,i2,s2,e2,_,_,_,c2⟩:=drawDid_ex c i1 s1 c1 k (by omega)
   rw [if_pos hc,e2,Option.bind_some,if_pos (by omega)]
   dsimp only
   rw [wrap_succ (by omega)]
   exact drawSeq_l1 c j0 hj0 k0 next ls hls hx d (j+1) _ i2 s2 k c2 (by simp [hj]) (by omega) (by omega)
  ·rw [if_neg hc,if_pos (by omega),wrap_succ (by omega)]
   refine next _ i1 s1 k c1 (by simp [hls]) (fun x hx'=>?_) (by omega)
   rcases List.mem_append.1 hx' with q|q
   ·exact hx x q
   ·rw [List.mem_singleton.1 q];omega
theorem drawSeq_l0 (c:List Int): ∀(d j:Nat) (ls:List (List S37)) (i s:Int) (k:Nat),curOk c i→ls.length=j→(∀x∈ls,x.length≤4)→j+d=3→100+60*d<k→okLs c (spec_DrawSeqOk.l0 k ls (j:Int) c i s)
 |d,j,ls,i,s,k,h,hj,hx,hd,hk=>by
  obtain ⟨k,rfl⟩: ∃q,k=q+1:=⟨k-1,by omega⟩
  obtain ⟨v,i1,s1,e1,p1,q1,c1⟩:=l1Below_ex c i s h 3 (by omega) (by omega)
  rw [spec_DrawSeqOk.l0,e1,Option.bind_some]
  dsimp only
  rw [wrap_small (x:=1+v) (by omega) (by omega)]
  by_cases hc:(j:Int)<1+v
  ·obtain ⟨d,rfl⟩: ∃q,d=q+1:=⟨d-1,by omega⟩
   rw [if_pos hc]
   exact drawSeq_l1 c j (by omega) (100+60*d) (fun ls i s k h hl hx hk=>drawSeq_l0 c d (j+1) ls i s k h hl hx (by omega) hk) ls hj hx 4 0 [] i1 s1 k c1 rfl (by omega) (by omega)
  ·rw [if_neg hc]
   exact ⟨_,_,rfl,by simp,by omega,fun x h=>by have:=hx x h;omega⟩
theorem byV_small (n:Int) (l:List S74) (hl:l.length≤1048576):(byV n l).length≤1048576∧∀x∈byV n l,x.length≤1048576:=by
 unfold byV
 split
 ·exact ⟨by rw [byTo_len];omega,fun x hx=>by have:=byTo_mem l n.toNat l.length x hx;omega⟩
 ·exact ⟨by simp,by simp⟩
theorem drawSeqOk_ex (c:List Int) (hc:c.length≤1048576) (k:Nat) (hk:10000000<k):okLs c (spec_DrawSeqOk.f k c):=by
 unfold spec_DrawSeqOk.f
 obtain ⟨i0,s0,e0,c0⟩:=l1New_ex c hc k (by omega)
 rw [e0,Option.bind_some]
 obtain ⟨on,i1,s1,e1,c1⟩:=l1Once_ex c i0 s0 c0 3 (by omega) (by omega)
 dsimp only
 rw [e1,Option.bind_some]
 dsimp only
 by_cases h0:on=true
 ·rw [if_pos h0]
  obtain ⟨m,hs,o,i2,s2,e2,hok,c2⟩:=drawRun_ex c i1 s1 c1 14 (by omega) k (by omega)
  obtain ⟨hw,hl,hh,ho,hin⟩:=hok
  rw [e2,Option.bind_some]
  dsimp only
  have tl:=traceV_len o (m,hs)
  rw [specTrace_eq m hs o hw (by omega) (fun x hx=>by have:=(hartB_parts (hh x hx)).1;omega) k (by omega),if_pos (by omega),Option.bind_some,specByHart_eq _ _ (by omega) k hk,Option.bind_some]
  obtain ⟨h1,h2⟩:=byV_small (hs.length:Int) (traceV (m,hs) o) (by omega)
  exact ⟨_,_,rfl,by have:=wordsB_24 hw;omega,h1,h2⟩
 ·rw [if_neg h0]
  exact drawSeq_l0 c 3 0 [] i1 s1 k c1 rfl (by simp) (by omega) (by omega)
theorem dids_filt (l:List S74) (w:Int): ∀i,i≤l.length→dids l w i=filtL w (l.take i)
 |0,_=>by simp [dids,filtL]
 |i+1,h=>by
  have hi:i<l.length:=by omega
  have e:rd_T74 l (i:Int)=l[i]:=by unfold rd_T74;simp [List.getD,hi]
  rw [dids,dids_filt l w i (by omega),←snoc_step l i hi,filtL_append,e]
  unfold filtL
  split
  ·rfl
  ·simp [filtL]
theorem byTo_all (l:List S74) (n:Nat):byTo l n l.length=allL n l:=by
 unfold byTo allL
 refine List.map_congr_left (fun w _=>?_)
 rw [dids_filt l _ l.length (Nat.le_refl _),List.take_length]
theorem traceV_who: ∀(o:List Int) (s:List Int×List Hh),∀e∈traceV s o,0≤e.f0∧e.f0<(s.2.length:Int)
 |[],s=>by simp [traceV]
 |i :: o,s=>by
  intro e he
  rw [traceV] at he
  by_cases c:mayGo s.2 i
  ·rw [if_pos c] at he
   rcases List.mem_cons.1 he with rfl|he
   ·have hf:(eventV s.1 (rd_T72 s.2 i) i).f0=i:=by unfold eventV;split<;>rfl
    rw [hf];exact ⟨c.1,c.2.1⟩
   ·have:=traceV_who o (nextV s i) e he
    rw [(nextV_len s i).2] at this;exact this
  ·rw [if_neg c] at he
   exact traceV_who o s e he
theorem seen_ok (m:List Int) (n:Nat) (hn:1≤n∧n≤8) (l:List S74) (hw:wordsB m 24=true) (hv:validL m l) (ho: ∀e∈l,0≤e.f0∧e.f0<(n:Int)) (ht:tot (byV (n:Int) l)≤12):seqB m (byV (n:Int) l)=true:=by
 have e:byV (n:Int) l=allL n l:=by
  unfold byV
  rw [if_pos (by omega),Int.toNat_natCast,byTo_all]
 rw [e] at ht ⊢
 unfold seqB
 rw [hw,decide_eq_true (by rw [allL_length];omega),decide_eq_true ht,someB_trace n l m hv ho];rfl
theorem strange_no (m:List Int) (h:rd m 3≠77):seqB m [[⟨3,77,-1⟩]]=false:=by
 unfold seqB
 have e:tot [[(⟨3,77,-1⟩:S37)]]=1:=rfl
 have e2:someB 1 m [[(⟨3,77,-1⟩:S37)]]=false:=by
  have h1:okD m ⟨3,77,-1⟩=false:=by
   unfold okD
   have:((77:Int) != rd m 3)=true:=by simpa using fun q=>h q.symm
   dsimp only
   rw [this];rfl
  have h2:=tryB_cons (n:=0) (m:=m) (xs:=[[(⟨3,77,-1⟩:S37)]]) (i:=0) (d:=⟨3,77,-1⟩) (t:=[]) rfl
  rw [h1,Bool.false_and] at h2
  rw [someB_succ]
  show (List.range' 0 1).any _=false
  rw [show List.range' 0 1=[0] from rfl,List.any_cons,List.any_nil,h2];rfl
 rw [e,e2];simp
theorem FnSeen:laws_FnSeen.Pure:=by
 intro c _ _ _
 obtain ⟨K,hK⟩: ∃K:Nat,19900000≤K:=⟨_,Nat.le_refl _⟩
 refine ⟨K+1,?_⟩
 unfold laws_FnSeen.f laws_big.f
 rw [Option.bind_some]
 by_cases hb:(c.length:Int)>1048576
 ·rw [if_pos (decide_eq_true hb)]
 rw [if_neg (by simpa using hb)]
 obtain ⟨m,hs,o,e0,hok⟩:=drawSteps_ex c (by omega) (K+1) (by omega)
 obtain ⟨hw,hl,hh,ho,hin⟩:=hok
 rw [e0,Option.bind_some]
 dsimp only
 have tl:=traceV_len o (m,hs)
 rw [implTrace_eq m hs o hw (by omega) (fun x hx=>by have:=(hartB_parts (hh x hx)).1;omega) (K+1) (by omega),if_pos (by omega),Option.bind_some]
 have hv:=trace_valid o (m,hs) hw
 have hwho:=traceV_who o (m,hs)
 have key: ∀l:List S74,validL m l→(∀e∈l,0≤e.f0∧e.f0<(hs.length:Int))→l.length≤100→laws_FnSeen.j0 (K+1) c m hs l=some true:=by
  intro l hv ho hl14
  obtain ⟨x,y,ex,hx1,hx2,hx3⟩:=drawSeqOk_ex c (by omega) K (by omega)
  obtain ⟨n2,l2,e2,hn2,hl2,_⟩:=drawByHart_ex c (by omega) K (by omega)
  have ed: ∃a b d,spec_DrawDidText.f K c=some (a,b,d)∧a<100∧b<100∧d<100:=by
   unfold spec_DrawDidText.f
   obtain ⟨i0,s0,e0,c0⟩:=l1New_ex c (by omega) K (by omega)
   rw [e0,Option.bind_some]
   obtain ⟨a,b,d,i1,s1,e1,h1,h2,h3,_⟩:=drawDid_ex c i0 s0 c0 K (by omega)
   dsimp only
   rw [e1,Option.bind_some]
   exact ⟨_,_,_,rfl,h1,h2,h3⟩
  obtain ⟨a,b,d,ed,ha,hb,hd⟩:=ed
  rw [laws_FnSeen.j0,implByHart_eq _ l (by omega) K (by omega),Option.bind_some,ex,Option.bind_some,e2,Option.bind_some,ed,Option.bind_some]
  dsimp only
  rw [implByHart_eq _ l2 (by omega) K (by omega),Option.bind_some,specByHart_eq _ l2 (by omega) K (by omega),Option.bind_some,implSeqOk_eq x y hx1 hx2 hx3 K (by omega),Option.bind_some,specSeqOk_eq x y hx1 hx2 hx3 K (by omega),Option.bind_some,if_neg (by simp),implDidText_eq a b d (by omega) (by omega) (by omega) K (by omega),Option.bind_some,specDidText_eq a b d (by omega) (by omega) (by omega) K (by omega),Option.bind_some,if_pos rfl]
  obtain ⟨k,hk⟩: ∃k,K=k+1:=⟨K-1,by omega⟩
  rw [show (((byV n2 l2).length:Int) != ((byV n2 l2).length:Int))=false by simp,hk,laws_FnSeen.j1,if_neg (by simp)]
  obtain ⟨hs1,hs2⟩:=byV_small (hs.length:Int) l (by omega)
  have hb8:(byV (hs.length:Int) l).length≤8:=by
   unfold byV;split
   ·rw [byTo_len];omega
   ·simp
  have hbt: ∀i,tot ((byV (hs.length:Int) l).take i)≤i*1048576:=fun i=>tot_take_le _ i hs2
  have hD:byV (hs.length:Int) l=byV ((hs.length:Nat):Int) l:=rfl
  have hseq:=seen_ok m hs.length (by omega) l hw hv ho
  generalize byV (hs.length:Int) l=D at hs1 hs2 hb8 hbt hseq ⊢
  refine for_stC 9000000 D.length (fun k i (s:Int)=>laws_FnSeen.l0 k m D s (i:Int)) (fun i=>(tot (D.take i):Int)) true ?_ ?_ k 0 (Nat.zero_le _) (by omega)
  ·intro k i hC hi
   have hs:=tot_take D i hi
   have h1:=hbt i
   have h2:=hbt (i+1)
   have h3:i*1048576≤8*1048576:=Nat.mul_le_mul_right _ (by omega)
   simp only [laws_FnSeen.l0]
   rw [if_pos (by omega),if_pos (by omega),rdLI D i hi,wrap_succ (by omega),wrap_small (by omega) (by omega),hs]
   congr 1;try omega
  ·intro k hC
   have ht:tot (D.take D.length)=tot D:=by rw [List.take_length]
   simp only [laws_FnSeen.l0]
   rw [if_neg (by omega),ht]
   by_cases c12:(tot D:Int)>12
   ·rw [if_pos c12]
   ·have m24:=wordsB_24 hw
    rw [if_neg c12,implSeqOk_eq m D (by omega) hs1 hs2 k (by omega),hseq (by omega),Option.bind_some,if_pos rfl,if_pos (by omega)]
    by_cases c77:rd m 3=77
    ·rw [if_pos c77]
    ·rw [if_neg c77,implSeqOk_eq m _ (by omega) (by simp) (by simp) k (by omega),strange_no m c77,Option.bind_some];rfl
 by_cases h14:((traceV (m,hs) o).length:Int)>14
 ·rw [if_pos h14,if_pos (by omega)]
  refine key _ (validL_take _ _ _ hv) (fun e he=>hwho e (List.mem_of_mem_take he)) (by rw [List.length_take];omega)
 ·rw [if_neg h14]
  exact key _ hv hwho (by omega)
end Go.Proofs.Ytaakcbgpmabaaaa.Pure
