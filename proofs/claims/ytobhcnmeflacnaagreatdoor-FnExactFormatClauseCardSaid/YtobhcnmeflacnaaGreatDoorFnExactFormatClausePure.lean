/-
  The plain law: the plain functions answer true.
-/
import Derived.Test.YtobhcnmeflacnaaGreatDoorFnExactFormatClauseLib
import Derived.Sort.AssemblyPlain
import Derived.Sort.LotD4
import Derived.Sort.LotD5
set_option linter.unusedVariables false
set_option linter.unusedSimpArgs false
set_option maxRecDepth 100000
namespace Go.Ln
open Go
theorem v8 {α:Type}{b:Nat}{xs:List α}{y:α}(h:(xs.length+1)*b≤1099511627776)(h2:xs.length+1≤1099511627776):kc b xs [y]=some (xs++[y]):=by
 unfold kc
 rw[if_pos]
 simp only[List.length_cons,List.length_nil,jC,Nat.zero_add]
 omega
namespace StrL
theorem lt_irrefl:∀(a:ac),Op.bytesLess a a=false
 | []=>rfl
 | x::xs=>by
  have h:¬x<x:=by simp
  simp[Op.bytesLess,h,lt_irrefl xs]
theorem lt_trans:∀(a b c:ac),Op.bytesLess a b=true→Op.bytesLess b c=true→Op.bytesLess a c=true
 | _,[],_,h,_=>by simp[Op.bytesLess] at h
 | _,_::_,[],_,h=>by simp[Op.bytesLess] at h
 | [],_::_,_::_,_,_=>rfl
 | x::xs,y::ys,z::zs,h1,h2=>by
  simp only[Op.bytesLess,Bool.or_eq_true,decide_eq_true_eq,Bool.and_eq_true,beq_iff_eq] at h1 h2 ⊢
  rcases h1 with h1 | ⟨h1,h3⟩<;>rcases h2 with h2 | ⟨h2,h4⟩
  ·exact .inl (UInt8.lt_trans h1 h2)
  ·subst h2;exact .inl h1
  ·subst h1;exact .inl h2
  ·subst h1;subst h2;exact .inr ⟨rfl,lt_trans xs ys zs h3 h4⟩
def Lt (a b:ac):Prop:=Op.bytesLess a b=true
theorem tri (a b:ac):Lt a b∨a=b∨Lt b a:=by
 have:=EI a b
 unfold Lt
 cases h:Op.bytesLess a b
 ·cases h2:a==b
  ·rw[h,h2] at this;exact .inr (.inr this.symm)
  ·exact .inr (.inl (by simpa using h2))
 ·exact .inl rfl
theorem Lt.irrefl {a:ac}(h:Lt a a):False:=by unfold Lt at h;rw[lt_irrefl] at h;cases h
theorem Lt.trans {a b c:ac}(h:Lt a b)(h2:Lt b c):Lt a c:=lt_trans a b c h h2
theorem Lt.asymm {a b:ac}(h:Lt a b)(h2:Lt b a):False:=(h.trans h2).irrefl
def Le (a b:ac):Prop:=¬Lt b a
theorem Le.lt_or {a b:ac}(h:Le a b):Lt a b∨a=b:=by
 rcases tri a b with h1 | h1 | h1
 ·exact .inl h1
 ·exact .inr h1
 ·exact (h h1).elim
theorem Le.trans {a b c:ac}(h:Le a b)(h2:Le b c):Le a c:=by
 intro h3
 rcases h.lt_or with h4 | rfl
 ·rcases h2.lt_or with h5 | rfl
  ·exact (h4.trans h5).asymm h3
  ·exact h h3
 ·exact h2 h3
theorem Lt.le {a b:ac}(h:Lt a b):Le a b:=fun h2=>h.asymm h2
theorem Le.le_lt {a b c:ac}(h:Le a b)(h2:Lt b c):Lt a c:=by
 rcases h.lt_or with h3 | rfl
 ·exact h3.trans h2
 ·exact h2
end StrL
namespace StrL
def eA (a:List ac)(j:Nat):Bool:=match j with
 | 0=>true
 | j+1=>match a[j]?,a[j+1]? with
  | some x,some y=>y != x
  | _,_=>true
def dd (a:List ac):List ac:=iU (eA a) a a.length
theorem Bu {a:List ac}{k:Nat}(h:∀j x y,j+1<k→a[j]?=some x→a[j+1]?=some y→y≠x)(hn:k≤a.length):iU (eA a) a k=a.take k:=by
 have e:∀n,n≤k→iU (eA a) a n=a.take n:=by
  intro n
  induction n with
  | zero=>intro _;rfl
  | succ n ih=>
   intro hk
   have h1:n<a.length:=by omega
   have hx:=List.getElem?_eq_getElem h1
   rw[we ?_ hx,ih (by omega),List.take_add_one,hx]
   ·rfl
   ·cases n with
    | zero=>rfl
    | succ n=>
     have h2:=List.getElem?_eq_getElem (show n<a.length by omega)
     simp only[eA,h2,hx]
     simpa using h n _ _ (by omega) h2 hx
 exact e k (Nat.le_refl k)
theorem Hx {s z:List ac}{x j:Nat}(h1:x≤j)(h2:j<s.length):ri z (0+Int.toNat (x:Int)) (Int.toNat (len s) - Int.toNat (x:Int)) ((j:Int) - (x:Int))=z[j]?:=by
 unfold ri
 simp only[len,Int.toNat_natCast,Nat.zero_add]
 rw[if_pos (by omega),show x+((j:Int) - (x:Int)).toNat=j by omega]
theorem Gl (s:List ac)(x:Nat)(hl:s.length≤1048576)(hx:x<s.length)(h0:iU (eA s) s (x+1)=s.take x):∃(i:Nat) (z:List ac),iq s (x:Int) ((x:Int),1,s)=some (.inr ((i:Int),z))∧z.length=s.length∧i≤z.length∧z.take i=dd s:=by
 have hD:=P9 (L:=fun q:Int×Int×List ac=>iq s (x:Int) (q.1,q.2.1 - (x:Int),q.2.2)) (keep:=eA s) (a:=s) (i0:=x)
  (by
   intro i j z y hz hi hij hy hy2 hy3
   obtain⟨h1,_⟩:=List.getElem?_eq_some_iff.1 hy
   have h2:=List.getElem?_eq_getElem (show j - 1<s.length by omega)
   have h4:=List.getElem?_eq_getElem (show i<z.length by omega)
   show iq s (x:Int) ((i:Int),(j:Int) - (x:Int),z)=bif eA s j then iq s (x:Int) (((i+1:Nat):Int),((j+1:Nat):Int) - (x:Int),z.set i y) else iq s (x:Int) ((i:Int),((j+1:Nat):Int) - (x:Int),z)
   have w1:an ((j:Int) - (x:Int) - 1)=((j - 1:Nat):Int) - (x:Int):=by rw[cV (by omega) (by omega)];omega
   have w2:an ((j:Int) - (x:Int)+1)=((j+1:Nat):Int) - (x:Int):=by rw[cV (by omega) (by omega)];omega
   have c1:decide ((j:Int) - (x:Int)<(((Int.toNat (len s) - Int.toNat (x:Int)):Nat):Int))=true:=decide_eq_true (by simp only[len,Int.toNat_natCast];omega)
   rw[AK,iM]
   simp only[c1,cond_true,w1,w2,Hx (show x≤j by omega) h1,Hx (show x≤j - 1 by omega) (show j - 1<s.length by omega),hy2,hy3,h2,Option.bind_some,cg,Ga,h4,co (show i<9223372036854775807 by omega)]
   have hk:eA s j=(y != s[j - 1]):=by
    cases j with
    | zero=>omega
    | succ j=>
     simp only[eA,hy,show j+1 - 1=j by omega] at h2 ⊢
     simp only[h2]
   rw[hk]
   show _=bif !(y==s[j - 1]) then _ else _
   cases y==s[j - 1]<;>rfl)
  (by
   intro i j z hz hi hij hj
   show iq s (x:Int) ((i:Int),(j:Int) - (x:Int),z)=_
   have c1:decide ((j:Int) - (x:Int)<(((Int.toNat (len s) - Int.toNat (x:Int)):Nat):Int))=false:=decide_eq_false (by simp only[len,Int.toNat_natCast];omega)
   rw[AK,iM]
   simp only[c1,cond_false])
  h0 hx
 simp only[show ((x+1:Nat):Int) - (x:Int)=1 by omega] at hD
 exact hD
theorem tc (s:List ac)(hl:s.length≤1048576):∀(n k:Nat),k+n=s.length→1≤k→(∀j x y,j+1<k→s[j]?=some x→s[j+1]?=some y→y≠x)→∃y,mZ s (k:Int)=some y∧(y=.inl (dd s)∨y=.inr (dd s))
 | 0,k,hk,h1,h=>by
  refine⟨.inr s,?_,.inr ?_⟩
  ·rw[yT,i8,b9,decide_eq_false (by omega),cond_false]
  ·unfold dd
   rw[Bu (k:=s.length) (fun j x y hj=>h j x y (by omega)) (Nat.le_refl _),List.take_length]
 | n+1,k,hk,h1,h=>by
  have h2:k<s.length:=by omega
  have e1:=List.getElem?_eq_getElem h2
  have e2:=List.getElem?_eq_getElem (show k - 1<s.length by omega)
  have w1:an ((k:Int) - 1)=((k - 1:Nat):Int):=by rw[cV (by omega) (by omega)];omega
  rw[yT,i8,b9,decide_eq_true h2,cond_true,w1,cg,cg,e1,e2,Option.bind_some,Option.bind_some,co (by omega)]
  by_cases hq:s[k]=s[k - 1]
  ·rw[beq_iff_eq.2 hq,cond_true]
   have e3:ga s.length (k:Int) (len s)=some ():=by unfold ga;rw[if_pos (by simp only[len];omega)]
   have hno:eA s k=false:=by
    cases k with
    | zero=>omega
    | succ k=>
     simp only[show k+1 - 1=k by omega] at e2 hq
     simp only[eA,e1,e2,hq,bne_self_eq_false]
   obtain⟨i,z,e,hz,hi,ht⟩:=Gl s k hl h2 (by rw[BA hno,Bu h (by omega)])
   rw[e3,Option.bind_some,e,f7]
   refine⟨.inl (dd s),?_,.inl rfl⟩
   rw[←ht]
   exact TN (c:=([]:ac)) (F:=fun p19=>some (Sum.inl p19)) hi
  ·rw[beq_eq_false_iff_ne.2 hq,cond_false]
   refine tc s hl n (k+1) (by omega) (by omega) fun j x y hj hx hy=>?_
   by_cases hj2:j+1<k
   ·exact h j x y hj2 hx hy
   ·obtain rfl:k=j+1:=by omega
    simp only[show j+1 - 1=j by omega] at e2 hq
    rw[e2] at hx
    rw[e1] at hy
    cases hx
    cases hy
    exact hq
theorem compact_val (s:List ac)(hl:s.length≤1048576):wr s=some (dd s):=by
 unfold wr
 by_cases h:len s<2
 ·rw[decide_eq_true h,cond_true]
  have h':s.length<2:=by simp only[len] at h;omega
  unfold dd
  rw[Bu (k:=s.length) (fun j x y hj=>by omega) (Nat.le_refl _),List.take_length]
 ·rw[decide_eq_false h,cond_false]
  have h':¬s.length<2:=by simp only[len] at h;omega
  obtain⟨y,hy,hq⟩:=tc s hl (s.length - 1) 1 (by omega) (Nat.le_refl _) (fun j x y hj=>by omega)
  rw[show mZ s 1=some y from hy]
  rcases hq with rfl | rfl<;>rfl
end StrL
namespace StrL
theorem C4 {a:List ac}(hs:a.Pairwise Le):∀n,n≤a.length→(iU (eA a) a n).Pairwise Lt∧∀x,x∈iU (eA a) a n↔x∈a.take n
 | 0,_=>by
  have e:iU (eA a) a 0=[]:=rfl
  rw[e]
  exact⟨List.Pairwise.nil,fun x=>by simp⟩
 | n+1,hn=>by
  obtain⟨h1,h2⟩:=C4 hs n (by omega)
  have hlt:n<a.length:=by omega
  have hx:=List.getElem?_eq_getElem hlt
  have hle:∀y∈a.take n,Le y a[n]:=by
   intro y hy
   obtain⟨i,hi,rfl⟩:=List.mem_iff_getElem.1 hy
   rw[List.length_take] at hi
   rw[List.getElem_take]
   exact List.pairwise_iff_getElem.1 hs i n (by omega) hlt (by omega)
  cases hk:eA a n with
  | true=>
   rw[we hk hx]
   have hstrict:∀y∈a.take n,Lt y a[n]:=by
    intro y hy
    cases n with
    | zero=>simp at hy
    | succ j=>
     have h3:=List.getElem?_eq_getElem (show j<a.length by omega)
     have hne:a[j+1]≠a[j]:=by
      simp only[eA,h3,hx] at hk
      simpa using hk
     have hj:Le a[j] a[j+1]:=List.pairwise_iff_getElem.1 hs j (j+1) (by omega) hlt (by omega)
     obtain⟨i,hi,rfl⟩:=List.mem_iff_getElem.1 hy
     rw[List.length_take] at hi
     rw[List.getElem_take]
     have hlt2:Lt a[j] a[j+1]:=hj.lt_or.resolve_right fun e=>hne e.symm
     by_cases e:i=j
     ·subst e;exact hlt2
     ·have:=List.pairwise_iff_getElem.1 hs i j (by omega) (by omega) (by omega)
      exact this.le_lt hlt2
   refine⟨List.pairwise_append.2 ⟨h1,List.pairwise_singleton _ _,fun y hy z hz=>?_⟩,fun x=>?_⟩
   ·rw[List.mem_singleton] at hz
    subst hz
    exact hstrict y ((h2 y).1 hy)
   ·rw[List.take_add_one,hx,List.mem_append,List.mem_append,h2]
    rfl
  | false=>
   rw[BA hk]
   refine⟨h1,fun x=>?_⟩
   rw[h2,List.take_add_one,hx,List.mem_append]
   constructor
   ·exact .inl
   ·rintro (h | h)
    ·exact h
    ·have e:x=a[n]:=by simpa using h
     subst e
     cases n with
     | zero=>simp[eA] at hk
     | succ j=>
      have h3:=List.getElem?_eq_getElem (show j<a.length by omega)
      simp only[eA,h3,hx] at hk
      have e:a[j+1]=a[j]:=by simpa using hk
      rw[e]
      have:a[j]∈a.take (j+1):=by
       rw[List.mem_iff_getElem]
       exact⟨j,by rw[List.length_take];omega,by rw[List.getElem_take]⟩
      exact this
theorem dd_ok {a:List ac}(hs:a.Pairwise Le):(dd a).Pairwise Lt∧∀x,x∈dd a↔x∈a:=by
 have:=C4 hs a.length (Nat.le_refl _)
 rw[List.take_length] at this
 exact this
theorem asc_uniq:∀{a b:List ac},a.Pairwise Lt→b.Pairwise Lt→(∀x,x∈a↔x∈b)→a=b
 | [],[],_,_,_=>rfl
 | [],y::b,_,_,h=>absurd ((h y).2 (by simp)) (by simp)
 | x::a,[],_,_,h=>absurd ((h x).1 (by simp)) (by simp)
 | x::a,y::b,ha,hb,h=>by
  rw[List.pairwise_cons] at ha hb
  have e:x=y:=by
   have h1:=(h x).1 (by simp)
   have h2:=(h y).2 (by simp)
   rw[List.mem_cons] at h1 h2
   rcases h1 with h1 | h1
   ·exact h1
   ·rcases h2 with h2 | h2
    ·exact h2.symm
    ·exact ((ha.1 y h2).asymm (hb.1 x h1)).elim
  subst e
  rw[asc_uniq ha.2 hb.2 fun z=>?_]
  constructor
  ·intro hz
   have h1:=(h z).1 (List.mem_cons_of_mem _ hz)
   rcases List.mem_cons.1 h1 with e | h1
   ·subst e;exact (ha.1 z hz).irrefl.elim
   ·exact h1
  ·intro hz
   have h1:=(h z).2 (List.mem_cons_of_mem _ hz)
   rcases List.mem_cons.1 h1 with e | h1
   ·subst e;exact (hb.1 z hz).irrefl.elim
   ·exact h1
theorem FF {b:Nat}{xs ys:List ac}(h:(xs.length+ys.length)*b≤1099511627776)(h2:xs.length+ys.length≤1099511627776):kc b xs ys=some (xs++ys):=by
 unfold kc
 rw[if_pos]
 simp only[jC]
 omega
theorem Eq (l:List ac)(n:ac)(m:Nat)(hm:m≤l.length)(hl:l.length≤1048576)(h1:∀(j:Nat) x,j<m→l[j]?=some x→Lt x n)(h2:∀x,l[m]?=some x→¬Lt x n):∀(k j:Nat),j+k=m→qf l n (j:Int)=some (.inr (n,(m:Int),l))
 | 0,j,hj=>by
  obtain rfl:j=m:=by omega
  rw[AQ,iH,b9]
  by_cases h:j<l.length
  ·rw[decide_eq_true h,cond_true,cg,List.getElem?_eq_getElem h,Option.bind_some,f7,show Op.bytesLess l[j] n=false from by simpa[Lt] using h2 _ (List.getElem?_eq_getElem h),cond_false]
  ·rw[decide_eq_false h,cond_false,f7,cond_false]
 | k+1,j,hj=>by
  have h:j<l.length:=by omega
  rw[AQ,iH,b9,decide_eq_true h,cond_true,cg,List.getElem?_eq_getElem h,Option.bind_some,f7,show Op.bytesLess l[j] n=true from h1 j _ (by omega) (List.getElem?_eq_getElem h),cond_true,co (by omega)]
  exact Eq l n m hm hl h1 h2 k (j+1) (by omega)
theorem put_val (l:List ac)(n:ac)(hl:l.length≤1000000)(hs:l.Pairwise Lt):∃r,sb l n=some r∧r.Pairwise Lt∧(∀x,x∈r↔x∈l∨x=n)∧r.length≤l.length+1:=by
 have key:∃m,m≤l.length∧(∀(j:Nat) x,j<m→l[j]?=some x→Lt x n)∧(∀x,l[m]?=some x→¬Lt x n):=by
  clear hl
  induction l with
  | nil=>exact⟨0,by simp,fun j x hj=>by omega,fun x hx=>by simp at hx⟩
  | cons y l ih=>
   by_cases hy:Lt y n
   ·obtain⟨m,h1,h2,h3⟩:=ih (List.pairwise_cons.1 hs).2
    refine⟨m+1,by simp;omega,fun j x hj hx=>?_,fun x hx=>h3 x (by simpa using hx)⟩
    cases j with
    | zero=>simp at hx;subst hx;exact hy
    | succ j=>exact h2 j x (by omega) (by simpa using hx)
   ·exact⟨0,by simp,fun j x hj=>by omega,fun x hx=>by simp at hx;subst hx;exact hy⟩
 obtain⟨m,hm,h1,h2⟩:=key
 have hlow:∀x∈l.take m,Lt x n:=by
  intro x hx
  obtain⟨i,hi,rfl⟩:=List.mem_iff_getElem.1 hx
  rw[List.length_take] at hi
  rw[List.getElem_take]
  exact h1 i _ (by omega) (List.getElem?_eq_getElem (by omega))
 have hloop:=Eq l n m hm (by omega) h1 h2 m 0 (by omega)
 rw[show ((0:Nat):Int)=0 from rfl] at hloop
 unfold sb
 rw[hloop]
 simp only[cF,b9]
 have s1:ga l.length 0 (m:Int)=some ():=by unfold ga;rw[if_pos (by omega)]
 have s2:ga l.length (m:Int) (len l)=some ():=by unfold ga;rw[if_pos (by simp only[len];omega)]
 have p1:gn l (0+Int.toNat 0) (Int.toNat (m:Int) - Int.toNat 0)=some (l.take m):=by
  unfold gn
  simp only[Int.toNat_zero,Int.toNat_natCast,Nat.zero_add,Nat.sub_zero,List.drop_zero]
  rw[if_pos hm]
 have p2:gn l (0+Int.toNat (m:Int)) (Int.toNat (len l) - Int.toNat (m:Int))=some (l.drop m):=by
  unfold gn
  simp only[Int.toNat_natCast,Nat.zero_add,len]
  rw[if_pos (by omega),List.take_of_length_le (by rw[List.length_drop];omega)]
 have a1:kc 16 ([]:List ac) (l.take m)=some (l.take m):=by rw[FF (by simp only[List.length_nil,List.length_take];omega) (by simp only[List.length_nil,List.length_take];omega)];rfl
 have a2:kc 16 (l.take m) [n]=some (l.take m++[n]):=v8 (by rw[List.length_take];omega) (by rw[List.length_take];omega)
 have a3:kc 16 (l.take m++[n]) (l.drop m)=some (l.take m++[n]++l.drop m):=FF (by simp only[List.length_append,List.length_take,List.length_drop,List.length_singleton];omega) (by simp only[List.length_append,List.length_take,List.length_drop,List.length_singleton];omega)
 have hins:(∀x∈l.drop m,Lt n x)→(l.take m++[n]++l.drop m).Pairwise Lt∧(∀x,x∈l.take m++[n]++l.drop m↔x∈l∨x=n)∧(l.take m++[n]++l.drop m).length≤l.length+1:=by
  intro hhi
  have hs2:=hs
  rw[←List.take_append_drop m l,List.pairwise_append] at hs2
  refine⟨List.pairwise_append.2 ⟨List.pairwise_append.2 ⟨hs2.1,List.pairwise_singleton _ _,fun x hx y hy=>?_⟩,hs2.2.1,fun x hx y hy=>?_⟩,fun x=>?_,?_⟩
  ·rw[List.mem_singleton] at hy;subst hy;exact hlow x hx
  ·rcases List.mem_append.1 hx with hx | hx
   ·exact hs2.2.2 x hx y hy
   ·rw[List.mem_singleton] at hx;subst hx;exact hhi y hy
  ·have:x∈l↔x∈l.take m∨x∈l.drop m:=by
    rw[←List.mem_append,List.take_append_drop]
   rw[List.mem_append,List.mem_append,List.mem_singleton,this]
   constructor
   ·rintro ((h | h) | h)
    ·exact .inl (.inl h)
    ·exact .inr h
    ·exact .inl (.inr h)
   ·rintro ((h | h) | h)
    ·exact .inl (.inl h)
    ·exact .inr h
    ·exact .inl (.inr h)
  ·simp only[List.length_append,List.length_take,List.length_drop,List.length_singleton];omega
 by_cases hb:m<l.length
 ·have hx:=List.getElem?_eq_getElem hb
  have hge:=h2 _ hx
  have hrest:∀x∈l.drop (m+1),Lt l[m] x:=by
   intro x hx
   obtain⟨i,hi,rfl⟩:=List.mem_iff_getElem.1 hx
   rw[List.length_drop] at hi
   rw[List.getElem_drop]
   exact List.pairwise_iff_getElem.1 hs m (m+1+i) hb (by omega) (by omega)
  rw[decide_eq_true hb,cond_true,cg,hx,Option.bind_some,cF,uz]
  by_cases he:l[m]=n
  ·rw[decide_eq_true he,cond_true]
   refine⟨l,rfl,hs,fun x=>⟨.inl,?_⟩,by omega⟩
   rintro (h | h)
   ·exact h
   ·rw[h,←he];exact List.getElem_mem hb
  ·rw[decide_eq_false he,cond_false]
   simp only[s1,p1,a1,a2,s2,p2,a3,Option.bind_some]
   refine⟨_,rfl,hins ?_⟩
   intro x hx
   rw[List.drop_eq_getElem_cons hb] at hx
   rcases List.mem_cons.1 hx with rfl | hx
   ·exact (tri n l[m]).resolve_right fun h=>h.elim (fun e=>he e.symm) hge
   ·have h1:Lt n l[m]:=(tri n l[m]).resolve_right fun h=>h.elim (fun e=>he e.symm) hge
    exact h1.trans (hrest x hx)
 ·rw[decide_eq_false hb,cond_false,cF,cond_false]
  simp only[s1,p1,a1,a2,s2,p2,a3,Option.bind_some]
  refine⟨_,rfl,hins ?_⟩
  intro x hx
  rw[List.drop_of_length_le (by omega)] at hx
  cases hx
end StrL
theorem ui {x y:ac}:decide (x≤y)=true↔StrL.Le x y:=by
 unfold StrL.Le StrL.Lt
 rw[Go.Proofs.bytesLess_eq,decide_eq_true_iff,decide_eq_true_iff]
 exact Iff.rfl
theorem No (l:List ac):(l.mergeSort fun x y=>decide (x≤y)).Pairwise StrL.Le:=by
 have h:=List.pairwise_mergeSort (le:=fun x y:ac=>decide (x≤y)) (fun x y z h1 h2=>by
  rw[ui] at *;exact h1.trans h2) (fun x y=>by
  rw[Bool.or_eq_true,ui,ui]
  rcases StrL.tri x y with h | h | h
  ·exact .inl h.le
  ·subst h;exact .inl fun h=>h.irrefl
  ·exact .inr h.le) l
 exact h.imp fun {x y} h=>ui.1 h
theorem QY (l r:List ac)(hl:l.length≤1048576)(hr:r.Pairwise StrL.Lt)(hm:∀x,x∈r↔x∈l):EQ l=some r:=by
 unfold EQ pf
 have hl2:(l.mergeSort fun (x y:ac)=>decide (x≤y)).length=l.length:=List.length_mergeSort _
 rw[Nat.ble_eq_true_of_le hl,cond_true,Option.bind_some,hl2,Nat.beq_refl,cond_true,StrL.compact_val _ (by rw[hl2];exact hl),Option.bind_some]
 obtain⟨h1,h2⟩:=StrL.dd_ok (No l)
 congr 1
 refine StrL.asc_uniq h1 hr fun x=>?_
 rw[h2,hm]
 exact (List.mergeSort_perm l _).mem_iff
theorem wK (b x:Bool):(bif b then x else false)=(b&&x):=by cases b<;>rfl
def eg (x a b:Int):Bool:=decide (x≥a)&&decide (x≤b)
theorem pB (x a b:Int):dj x a b=some (eg x a b):=by simp only[dj,eY,wK,eg]
theorem mX (x a b:Int):lc x a b=some (eg x a b):=by simp only[lc,eY,wK,eg]
def iw (c:UInt8):Bool:=(decide (97≤c.toNat)&&decide (c.toNat≤122))||(decide (48≤c.toNat)&&decide (c.toNat≤57))
theorem JJ (c:UInt8):sD (c.toNat:Int)=some (iw c):=by
 simp only[sD,iw,eY]
 by_cases h1:97≤c.toNat<;>by_cases h2:c.toNat≤122<;>by_cases h3:48≤c.toNat<;>by_cases h4:c.toNat≤57<;>simp[h1,h2,h3,h4,show ((97:Int)≤c.toNat)↔97≤c.toNat by omega,show ((c.toNat:Int)≤122)↔c.toNat≤122 by omega,show ((48:Int)≤c.toNat)↔48≤c.toNat by omega,show ((c.toNat:Int)≤57)↔c.toNat≤57 by omega]
def jl:List ac:=[[116,114,117,101],[102,114,111,109],[110,111,116],[97,110,100],[111,114],[98,111,116,104],[101,105,116,104,101,114],[105,116],[105,110]]
def fQ (s:ac):Bool:=match s with
 | []=>false
 | c::r=>decide (r.length<8)&&decide (97≤c.toNat)&&decide (c.toNat≤122)&&s.all iw && !jl.contains s
theorem Q6 (b x:Bool):(bif b then b else x)=(b||x):=by cases b<;>rfl
theorem G7:vP [116,114,117,101,32,102,114,111,109,32,110,111,116,32,97,110,100,32,111,114,32,98,111,116,104,32,101,105,116,104,101,114,32,105,116,32,105,110] [32]=some jl:=by
 have h:uw [116,114,117,101,32,102,114,111,109,32,110,111,116,32,97,110,100,32,111,114,32,98,111,116,104,32,101,105,116,104,101,114,32,105,116,32,105,110] [32] 0 (-1) 9 ([116,114,117,101,32,102,114,111,109,32,110,111,116,32,97,110,100,32,111,114,32,98,111,116,104,32,101,105,116,104,101,114,32,105,116,32,105,110],0,List.replicate 9 [])=some (.inr ([105,110],8,[[116,114,117,101],[102,114,111,109],[110,111,116],[97,110,100],[111,114],[98,111,116,104],[101,105,116,104,101,114],[105,116],[]])):=
  (gb (fun a=>(uG _ _ _ _ _ a).1)).2 ⟨20,by decide +kernel⟩
 have e:vP [116,114,117,101,32,102,114,111,109,32,110,111,116,32,97,110,100,32,111,114,32,98,111,116,104,32,101,105,116,104,101,114,32,105,116,32,105,110] [32]=(bd (uw [116,114,117,101,32,102,114,111,109,32,110,111,116,32,97,110,100,32,111,114,32,98,111,116,104,32,101,105,116,104,101,114,32,105,116,32,105,110] [32] 0 (-1) 9 ([116,114,117,101,32,102,114,111,109,32,110,111,116,32,97,110,100,32,111,114,32,98,111,116,104,32,101,105,116,104,101,114,32,105,116,32,105,110],0,List.replicate 9 [])) fun u12:ac×Int×(List ac)=>(aP u12.2.2 u12.2.1).bind fun e13=>(ga (eU u12.2.2 u12.2.1 u12.1).length 0 (an (u12.2.1+1))).bind fun s14=>(gn (eU u12.2.2 u12.2.1 u12.1) (0+Int.toNat (0)) (Int.toNat ((an (u12.2.1+1))) - Int.toNat (0))).bind fun p15=>some p15).bind fun r=>some r:=by rfl
 rw[e,h]
 rfl
theorem Cl (s:ac):oT jl s=some (jl.contains s):=by
 unfold oT xh
 rw[uj (L:=na jl s) (a:=jl) (p:=fun e=>some (s==e)) (q:=fun e=>s==e) (fun _ _=>rfl) (fun x=>by rw[yS,jh]<;>rfl) (by decide)]
 cases h:jl.findIdx? (fun e=>s==e) with
 | none=>
  have:jl.contains s=false:=by
   rw[List.findIdx?_eq_none_iff] at h
   rw[Bool.eq_false_iff]
   intro hc
   rw[List.contains_iff_exists_mem_beq] at hc
   obtain⟨w,hw,he⟩:=hc
   rw[h w hw] at he
   cases he
  rw[this]
  rfl
 | some i=>
  have:jl.contains s=true:=by
   rw[List.findIdx?_eq_some_iff_getElem] at h
   obtain⟨hi,he,_⟩:=h
   rw[List.contains_iff_exists_mem_beq]
   exact⟨_,List.getElem_mem hi,he⟩
  rw[this]
  simp
theorem IE (s:ac):(bif s==[116,114,117,101] then s==[116,114,117,101] else bif s==[102,114,111,109] then s==[102,114,111,109] else bif s==[110,111,116] then s==[110,111,116] else bif s==[97,110,100] then s==[97,110,100] else bif s==[111,114] then s==[111,114] else bif s==[98,111,116,104] then s==[98,111,116,104] else bif s==[101,105,116,104,101,114] then s==[101,105,116,104,101,114] else bif s==[105,116] then s==[105,116] else s==[105,110])=jl.contains s:=by
 simp only[Q6,jl,List.contains_cons,List.contains_nil,Bool.or_false]
theorem nZ (s:ac)(hs:s.length≤1048576):oG s=some (fQ s):=by
 unfold oG dj fQ
 simp only[eY,Option.bind_some,IE]
 cases s with
 | nil=>rfl
 | cons c r=>
  have e1:decide (len (c::r)≥1)=true:=decide_eq_true (by simp[len];omega)
  have e2:decide (len (c::r)≤8)=decide (r.length<8):=by simp only[len,List.length_cons];congr 1;apply propext;omega
  have e3:aP (c::r) (0:Int)=some c:=rfl
  have e4:decide ((c.toNat:Int)<97)=!decide (97≤c.toNat):=by rw[←decide_not];congr 1;apply propext;omega
  have e5:decide ((c.toNat:Int)>122)=!decide (c.toNat≤122):=by rw[←decide_not];congr 1;apply propext;omega
  rw[e1,e2,e3,Cf (r:=false) (L:=pr (c::r)) (a:=c::r) (p:=fun c=>(sD (c.toNat:Int)).bind fun r=>some (!r)) (q:=fun c=>!iw c) (fun x _=>by rw[JJ];rfl) (fun x=>by rw[Je,kG];simp only[Option.bind_assoc,Option.bind_some]) (by omega)]
  simp only[cond_true,Option.bind_some,e4,e5]
  have e6:((c::r).any fun c=>!iw c)=!((c::r).all iw):=by rw[List.not_all_eq_any_not]
  rw[e6]
  cases decide (r.length<8)<;>cases decide (97≤c.toNat)<;>cases decide (c.toNat≤122)<;>cases (c::r).all iw<;>cases jl.contains (c::r)<;>rfl
theorem nU (s:ac)(hs:s.length≤1048576):tk s=some (fQ s):=by
 unfold tk lc fQ
 simp only[eY,Option.bind_some,G7,Cl]
 cases s with
 | nil=>rfl
 | cons c r=>
  have e1:decide (len (c::r)≥1)=true:=decide_eq_true (by simp[len];omega)
  have e2:decide (len (c::r)≤8)=decide (r.length<8):=by simp only[len,List.length_cons];congr 1;apply propext;omega
  have e3:aP (c::r) (0:Int)=some c:=rfl
  have e4:decide ((c.toNat:Int)<97)=!decide (97≤c.toNat):=by rw[←decide_not];congr 1;apply propext;omega
  have e5:decide ((c.toNat:Int)>122)=!decide (c.toNat≤122):=by rw[←decide_not];congr 1;apply propext;omega
  have hp:∀c:UInt8,(bif decide ((c.toNat:Int)<97) then (bif decide ((c.toNat:Int)<48) then true else decide ((c.toNat:Int)>57)) else (bif decide ((c.toNat:Int)>122) then (bif decide ((c.toNat:Int)<48) then true else decide ((c.toNat:Int)>57)) else false))=!iw c:=by
   intro c
   have f1:decide ((c.toNat:Int)<97)=!decide (97≤c.toNat):=by rw[←decide_not];congr 1;apply propext;omega
   have f2:decide ((c.toNat:Int)>122)=!decide (c.toNat≤122):=by rw[←decide_not];congr 1;apply propext;omega
   have f3:decide ((c.toNat:Int)<48)=!decide (48≤c.toNat):=by rw[←decide_not];congr 1;apply propext;omega
   have f4:decide ((c.toNat:Int)>57)=!decide (c.toNat≤57):=by rw[←decide_not];congr 1;apply propext;omega
   rw[f1,f2,f3,f4]
   unfold iw
   by_cases g1:97≤c.toNat
   ·have g3:48≤c.toNat:=by omega
    have g4:¬c.toNat≤57:=by omega
    simp only[g1,g3,g4,decide_true,decide_false]
    cases decide (c.toNat≤122)<;>rfl
   ·simp only[g1,decide_false]
    cases decide (48≤c.toNat)<;>cases decide (c.toNat≤57)<;>rfl
  rw[e1,e2,e3,Cf (r:=false) (L:=sK (c::r)) (a:=c::r) (p:=fun c=>some (!iw c)) (q:=fun c=>!iw c) (fun x _=>rfl) (fun x=>by rw[KE,lN];simp only[eY,hp,Option.bind_some]) (by omega)]
  simp only[cond_true,Option.bind_some,e4,e5]
  have e6:((c::r).any fun c=>!iw c)=!((c::r).all iw):=by rw[List.not_all_eq_any_not]
  rw[e6]
  cases decide (r.length<8)<;>cases decide (97≤c.toNat)<;>cases decide (c.toNat≤122)<;>cases (c::r).all iw<;>cases jl.contains (c::r)<;>rfl
theorem nN {ρ υ σ : Type}{L : Nat → σ → Option (ρ ⊕ υ)}(N : Nat)(J : Nat → σ → Prop)(T : ρ ⊕ υ → Prop)(hs : ∀ i s, i < N → J i s → (∃ s', J (i + 1) s' ∧ L i s = L (i + 1) s') ∨ ∃ y, T y ∧ L i s = some y)(he : ∀ s, J N s → ∃ y, T y ∧ L N s = some y){s : σ}(h0 : J 0 s) : ∃ y, T y ∧ L 0 s = some y := by
  have key : ∀ k i s, i + k = N → J i s → ∃ y, T y ∧ L i s = some y := by
    intro k
    induction k with
    | zero => intro i s hi hj; obtain rfl : i = N := by omega
              exact he s hj
    | succ k ih =>
      intro i s hi hj
      rcases hs i s (by omega) hj with ⟨s', h1, h2⟩ | h
      · rw [h2]; exact ih (i + 1) s' (by omega) h1
      · exact h
  exact key N 0 s (by omega) h0
theorem QW {α:Type}{L:Int→Option (Bool⊕Unit)}{a:List α}{f:α→Option Bool}{p:α→Bool}(hf:∀x∈a,f x=some (p x))(hL:∀x,L x=bif decide (x<len a) then (aP a x).bind fun e=>(f e).bind fun r=>bif !r then some (.inl false) else L (an (x+1)) else some (.inr ()))(hb:a.length<9223372036854775807):L 0=some (if a.all p then .inr () else .inl false):=by
 obtain⟨y,h1,h2⟩:=nN (L:=fun i (_:Unit)=>L (i:Int)) a.length (fun i _=>(a.take i).all p=true) (fun y=>y=if a.all p then .inr () else .inl false) (s:=())
  (by
   intro i _ hi hj
   have hx:=List.getElem?_eq_getElem hi
   rw[show L (i:Int)=_ from hL _,b9,decide_eq_true hi,cond_true,cg,hx,Option.bind_some,hf _ (List.getElem_mem hi),Option.bind_some,co (by omega)]
   cases hp:p a[i] with
   | true=>
    refine .inl ⟨(),?_,rfl⟩
    rw[List.take_add_one,hx,List.all_append,hj]
    simp[hp]
   | false=>
    refine .inr ⟨_,?_,rfl⟩
    rw[if_neg]
    intro h
    rw[List.all_eq_true] at h
    rw[h _ (List.getElem_mem hi)] at hp
    cases hp)
  (by
   intro _ hj
   refine⟨_,rfl,?_⟩
   rw[List.take_length] at hj
   rw[show L (a.length:Int)=_ from hL _,b9,decide_eq_false (by omega),cond_false,if_pos hj]) (by simp)
 rw[show L 0=some y from h2,h1]
theorem vF {ρ υ α:Type}{q:α→Bool}{y0 y1:ρ⊕υ}:∀{a:List α} {L:Nat→Option (ρ⊕υ)},(∀(i:Nat) x,a[i]?=some x→L i=bif q x then some y0 else L (i+1))→L a.length=some y1→L 0=some (if a.any q then y0 else y1)
 | [],L,_,he=>by simpa using he
 | x::a,L,hL,he=>by
  rw[hL 0 x rfl,vF (a:=a) (L:=fun i=>L (i+1)) (y0:=y0) (y1:=y1) (fun i z hz=>hL (i+1) z (by simpa using hz)) (by simpa using he),List.any_cons]
  cases q x<;>rfl
def lS (c:Condition):Bool:=
 if c.Op=1 then decide (c.Parts.length=0)&&(decide (c.Name=[])&&decide (c.Day=0))
 else if c.Op=2 then decide (c.Parts.length=0)&&(fQ c.Name&&decide (c.Day=0))
 else if c.Op=3 then decide (c.Parts.length=0)&&(decide (c.Name=[])&&eg c.Day 0 36524)
 else if c.Op=4 then decide (c.Parts.length=1)&&(decide (c.Name=[])&&decide (c.Day=0))
 else if c.Op=5∨c.Op=6 then decide (c.Parts.length=2)&&(decide (c.Name=[])&&decide (c.Day=0))
 else false
mutual
def dN:Condition→Bool
 | ⟨a0,a1,a2,a3⟩=>lS ⟨a0,a1,a2,a3⟩&&tK a3
def tK:List Condition→Bool
 | []=>true
 | x::xs=>dN x&&tK xs
end
theorem vo:∀a,tK a=a.all dN
 | []=>rfl
 | x::xs=>by simp[tK,vo xs]
theorem oo (c:Condition):dN c=(lS c&&c.Parts.all dN):=by cases c;simp only[dN,vo]
theorem tL {α:Type}{a:List α}{n:Nat}:(len a==(n:Int))=decide (a.length=n):=by
 rw[pP]
 by_cases h:a.length=n
 ·rw[decide_eq_true h,decide_eq_true];simp only[len];omega
 ·rw[decide_eq_false h,decide_eq_false];simp only[len];omega
theorem Li (c:Condition)(hn:c.Name.length≤1048576):vW c=some (lS c):=by
 have l0:(len c.Parts==0)=decide (c.Parts.length=0):=tL (n:=0)
 have l1:(len c.Parts==1)=decide (c.Parts.length=1):=tL (n:=1)
 have l2:(len c.Parts==2)=decide (c.Parts.length=2):=tL (n:=2)
 unfold vW lS
 simp only[eY,nZ _ hn,Option.bind_some,BC,pB,l0,l1,l2,uz,pP,wK]
 by_cases o1:c.Op=1
 ·simp only[o1,decide_true,cond_true,if_true]
 by_cases o2:c.Op=2
 ·rw[decide_eq_false o1,decide_eq_true o2,cond_false,cond_true,if_neg o1,if_pos o2]
  cases decide (c.Parts.length=0)<;>rfl
 by_cases o3:c.Op=3
 ·rw[decide_eq_false o1,decide_eq_false o2,decide_eq_true o3,cond_false,cond_false,cond_true,if_neg o1,if_neg o2,if_pos o3]
  cases decide (c.Parts.length=0)<;>cases decide (c.Name=[])<;>rfl
 by_cases o4:c.Op=4
 ·rw[decide_eq_false o1,decide_eq_false o2,decide_eq_false o3,decide_eq_true o4,if_neg o1,if_neg o2,if_neg o3,if_pos o4]
  rfl
 rw[decide_eq_false o1,decide_eq_false o2,decide_eq_false o3,decide_eq_false o4,if_neg o1,if_neg o2,if_neg o3,if_neg o4]
 by_cases o5:c.Op=5
 ·simp only[o5,decide_true,cond_true,cond_false,true_or,if_true]
 ·by_cases o6:c.Op=6
  ·rw[if_pos (.inr o6),decide_eq_false o5,decide_eq_true o6];rfl
  ·rw[if_neg (by omega),decide_eq_false o5,decide_eq_false o6];rfl
theorem IY (c:Condition):bb c→BS c=some (dN c):=by
 refine dX (P:=fun c=>bb c→BS c=some (dN c)) ?_ c
 intro c ih hc
 rw[d6] at hc
 rw[P7]
 unfold pe
 rw[Li c hc.2.1,Option.bind_some,oo]
 cases lS c with
 | false=>rfl
 | true=>
  have hl:c.Parts.length≤1048576:=hc.2.2.2.1.1
  simp only[Bool.not_true,cond_false,Bool.true_and]
  rw[QW (L:=nf (ay nM) c) (a:=c.Parts) (f:=fun e=>BS e) (p:=dN) (fun x hx=>ih x hx (hc.2.2.2.1.2 x hx)) (fun x=>by rw[Jr,iD]<;>rfl) (by omega)]
  cases c.Parts.all dN<;>rfl
theorem tY (a:List Condition)(i:Nat)(h:i<a.length):az (a.take (i+1))=az (a.take i)+aR a[i]:=by
 have app:∀(x y:List Condition),az (x++y)=az x+az y:=by
  intro x y
  induction x with
  | nil=>simp[az]
  | cons z x ih=>simp only[List.cons_append,az,ih];omega
 rw[List.take_add_one,List.getElem?_eq_getElem h,app]
 simp[az]
theorem mR (a:List Condition)(i:Nat):az (a.take i)≤az a:=by
 have app:∀(x y:List Condition),az (x++y)=az x+az y:=by
  intro x y
  induction x with
  | nil=>simp[az]
  | cons z x ih=>simp only[List.cons_append,az,ih];omega
 have:=app (a.take i) (a.drop i)
 rw[List.take_append_drop] at this
 omega
theorem LP (c:Condition):aR c≤2000000→FJ c=some ((aR c:Nat):Int):=by
 refine dX (P:=fun c=>aR c≤2000000→FJ c=some ((aR c:Nat):Int)) ?_ c
 intro c ih hc
 have hc':=dW c
 have hcs:=fA c.Parts
 rw[PH]
 unfold qe
 obtain⟨y,h1,h2⟩:=nN (L:=fun i (s:Int)=>jz (ay iX) c (s,(i:Int))) c.Parts.length (fun i s=>s=((1+az (c.Parts.take i):Nat):Int)) (fun y=>y=.inr ((aR c:Nat):Int)) (s:=1)
  (by
   intro i s hi hj
   have hx:=List.getElem?_eq_getElem hi
   have h3:=tY c.Parts i hi
   have h4:=mR c.Parts (i+1)
   refine .inl ⟨((1+az (c.Parts.take (i+1)):Nat):Int),rfl,?_⟩
   show jz (ay iX) c (s,(i:Int))=_
   rw[yd,gK]
   simp only[b9,decide_eq_true hi,cond_true,cg,hx,Option.bind_some]
   rw[show ay iX c.Parts[i]=some ((aR c.Parts[i]:Nat):Int) from ih _ (List.getElem_mem hi) (by omega),Option.bind_some,co (by omega),hj,cV (by omega) (by omega)]
   congr 2
   omega)
  (by
   intro s hj
   refine⟨_,rfl,?_⟩
   rw[List.take_length] at hj
   show jz (ay iX) c (s,(c.Parts.length:Int))=_
   rw[yd,gK]
   simp only[b9,decide_eq_false (Nat.lt_irrefl _),cond_false]
   rw[hj,hc']) (by simp[az])
 rw[show jz (ay iX) c (1,0)=some y from h2,h1]
 rfl
def kU (c:Condition):Bool:=dN c&&decide (aR c≤15)
theorem Pm {c:Condition}(h:bb c):aR c≤1048577:=by
 rw[d6] at h
 rw[dW]
 omega
theorem L9 (c:Condition)(h:bb c):vL c=some (kU c):=by
 unfold vL kU
 rw[IY c h,Option.bind_some]
 cases dN c with
 | false=>rfl
 | true=>
  have:=Pm h
  simp only[cond_true,Bool.true_and]
  rw[LP c (by omega),Option.bind_some,cF]
  congr 1
  by_cases h:aR c≤15
  ·rw[decide_eq_true h,decide_eq_true (by omega)]
  ·rw[decide_eq_false h,decide_eq_false (by omega)]
def Er (op:Int):Nat:=if op=4 then 1 else if op=5∨op=6 then 2 else 0
def vS (c:Condition):Bool:=eg c.Op 1 6&&decide (c.Parts.length=Er c.Op)
def zW (c:Condition):Bool:=((c.Op==2) == !(c.Name==([]:ac)))&&((if c.Op=2 then fQ c.Name else true)&&((if c.Op=3 then true else decide (c.Day=0))&&eg c.Day 0 36524))
theorem kn {x a b:Int}:eg x a b=true↔a≤x∧x≤b:=by simp[eg]
theorem LQ (c:Condition):((lc c.Op 1 6).bind fun r20=>bR (ρ:=Int) (bif (!r20) then (some (.inr true)) else ((aP [(-1),0,0,0,1,2,2] c.Op).bind fun e22=>some (.inr ((len c.Parts) != e22)))) fun u21:Bool=>(some (.inr u21):Option (Int⊕Bool)))=some (.inr (!vS c)):=by
 rw[mX,Option.bind_some]
 unfold vS
 cases h:eg c.Op 1 6 with
 | false=>rfl
 | true=>
  rw[kn] at h
  have ho:c.Op=1∨c.Op=2∨c.Op=3∨c.Op=4∨c.Op=5∨c.Op=6:=by omega
  have key:aP [(-1),0,0,0,1,2,2] c.Op=some ((Er c.Op:Nat):Int):=by rcases ho with h | h | h | h | h | h<;>rw[h]<;>rfl
  simp only[Bool.not_true,cond_false,key,Option.bind_some,f7,Bool.true_and,bne,tL]
theorem J7 (c:Condition)(hn:c.Name.length≤1048576):(bif (!((c.Op==2)==(!(c.Name==([]:ac))))) then (some (.inr true)) else (bR (ρ:=Int) (bif (c.Op==2) then ((tk c.Name).bind fun r10=>bR (ρ:=Int) (bif (!r10) then (some (.inr true)) else (bR (ρ:=Int) (bif (c.Op != 3) then (bR (ρ:=Int) (bif (c.Day != 0) then (some (.inr true)) else ((pg c.Day).bind fun r14=>some (.inr (!r14)))) fun u13:Bool=>some (.inr u13)) else ((pg c.Day).bind fun r15=>some (.inr (!r15)))) fun u12:Bool=>some (.inr u12))) fun u11:Bool=>some (.inr u11)) else (bR (ρ:=Int) (bif (c.Op != 3) then (bR (ρ:=Int) (bif (c.Day != 0) then (some (.inr true)) else ((pg c.Day).bind fun r18=>some (.inr (!r18)))) fun u17:Bool=>some (.inr u17)) else ((pg c.Day).bind fun r19=>some (.inr (!r19)))) fun u16:Bool=>some (.inr u16))) fun u9:Bool=>(some (.inr u9):Option (Int⊕Bool))))=some (.inr (!zW c)):=by
 unfold zW
 simp only[nU _ hn,pg,mX,Option.bind_some,Qa]
 cases ((c.Op==2) == !(c.Name==([]:ac))) with
 | false=>rfl
 | true=>
  simp only[Bool.not_true,cond_false,Bool.true_and]
  by_cases o2:c.Op=2
  ·simp only[o2,if_true,show ((2:Int)==2)=true from rfl,cond_true,show ¬(2:Int)=3 by omega,if_false,decide_false,Bool.not_false]
   cases fQ c.Name<;>by_cases hd:c.Day=0<;>simp[hd]
  ·have:(c.Op==2)=false:=beq_eq_false_iff_ne.2 o2
   rw[this,cond_false,if_neg o2]
   by_cases o3:c.Op=3
   ·simp[o3]
   ·by_cases hd:c.Day=0<;>simp[o3,hd]
theorem qi (c:Condition):lS c=(vS c&&zW c):=by
 have name0:c.Name=[]→fQ c.Name=false:=fun h=>by rw[h];rfl
 have d0:c.Day=0→eg c.Day 0 36524=true:=fun h=>by rw[h];rfl
 have in1:eg c.Op 1 6=decide (1≤c.Op∧c.Op≤6):=by rw[Bool.eq_iff_iff,kn,decide_eq_true_iff]
 unfold lS vS zW
 rw[in1,show Er c.Op=if c.Op=4 then 1 else if c.Op=5∨c.Op=6 then 2 else 0 from rfl]
 by_cases hn:c.Name=[]
 ·by_cases hd:c.Day=0
  ·by_cases o1:c.Op=1
   ·simp[o1,hn,hd,eg]
   by_cases o2:c.Op=2
   ·simp[o2,hn,hd,fQ]
   by_cases o3:c.Op=3
   ·simp[o3,hn,hd,eg]
   by_cases o4:c.Op=4
   ·simp[o4,hn,hd,eg]
   by_cases o5:c.Op=5
   ·simp[o5,hn,hd,eg]
   by_cases o6:c.Op=6
   ·simp[o6,hn,hd,eg]
   have:¬(1≤c.Op∧c.Op≤6):=by omega
   simp[o1,o2,o3,o4,o5,o6,decide_eq_false this]
  ·by_cases o3:c.Op=3
   ·simp[o3,hn]
   ·by_cases o2:c.Op=2<;>simp[o2,o3,hd]
 ·have hb:(c.Name==([]:ac))=false:=beq_eq_false_iff_ne.2 hn
  by_cases o2:c.Op=2
  ·by_cases hd:c.Day=0<;>simp[o2,hn,hd,eg,hb]
  ·simp[o2,hn,hb]
theorem Jw (c:Condition):bb c→∀so:Nat,so≤15→JZ c (so:Int)=some (if dN c=true∧so+aR c≤15 then ((so+aR c:Nat):Int) else -1):=by
 refine dX (P:=fun c=>bb c→∀so:Nat,so≤15→JZ c (so:Int)=some (if dN c=true∧so+aR c≤15 then ((so+aR c:Nat):Int) else -1)) ?_ c
 intro c ih hc so hso
 rw[d6] at hc
 have hnc:=dW c
 rw[RH]
 unfold ug
 rw[LQ,J7 c hc.2.1,co (by omega),oo,qi]
 by_cases h15:so+1≤15
 ·rw[decide_eq_false (by omega),cond_false]
  cases vS c with
  | false=>rfl
  | true=>
  cases zW c with
  | false=>rfl
  | true=>
   simp only[Bool.not_true,cF,cond_false,Bool.true_and]
   obtain⟨y,h1,h2⟩:=nN (L:=fun i (s:Int)=>jD (ay jQ) c (so:Int) (s,(i:Int))) c.Parts.length
    (fun i s=>s=((so+1+az (c.Parts.take i):Nat):Int)∧so+1+az (c.Parts.take i)≤15∧(c.Parts.take i).all dN=true)
    (fun y=>y=if c.Parts.all dN=true∧so+aR c≤15 then .inr ((so+aR c:Nat):Int) else .inl (-1)) (s:=((so+1:Nat):Int))
    (by
     rintro i s hi ⟨hj,hj2,hj3⟩
     have hx:=List.getElem?_eq_getElem hi
     have h3:=tY c.Parts i hi
     have h4:=mR c.Parts (i+1)
     have h5:=ih _ (List.getElem_mem hi) (hc.2.2.2.1.2 _ (List.getElem_mem hi)) (so+1+az (c.Parts.take i)) hj2
     show (∃s',_∧jD (ay jQ) c (so:Int) (s,(i:Int))=_)∨∃y,_∧jD (ay jQ) c (so:Int) (s,(i:Int))=_
     rw[CW,ji]
     simp only[b9,decide_eq_true hi,cond_true,cg,hx,Option.bind_some,hj]
     rw[show ay jQ (c.Parts[i],((so+1+az (c.Parts.take i):Nat):Int))=_ from h5,Option.bind_some,co (by have:=hc.2.2.2.1.1;omega)]
     by_cases hq:dN c.Parts[i]=true∧so+1+az (c.Parts.take i)+aR c.Parts[i]≤15
     ·rw[if_pos hq,decide_eq_false (by omega),cond_false]
      refine .inl ⟨_,⟨?_,?_,?_⟩,rfl⟩
      ·congr 1;omega
      ·omega
      ·rw[List.take_add_one,hx,List.all_append,hj3];simp[hq.1]
     ·rw[if_neg hq,decide_eq_true (by omega),cond_true]
      refine .inr ⟨_,?_,rfl⟩
      rw[if_neg]
      rintro⟨h6,h7⟩
      rw[List.all_eq_true] at h6
      exact hq ⟨h6 _ (List.getElem_mem hi),by omega⟩)
    (by
     rintro s ⟨hj,hj2,hj3⟩
     rw[List.take_length] at *
     show ∃y,_∧jD (ay jQ) c (so:Int) (s,(c.Parts.length:Int))=_
     rw[CW,ji]
     simp only[b9,decide_eq_false (Nat.lt_irrefl _),cond_false]
     refine⟨_,?_,rfl⟩
     rw[if_pos ⟨hj3,by omega⟩,hj]
     congr 2;omega) ⟨by simp[az],by simp[az];omega,by simp⟩
   rw[show jD (ay jQ) c (so:Int) (((so+1:Nat):Int),0)=some y from h2,h1]
   by_cases hq:c.Parts.all dN=true∧so+aR c≤15
   ·rw[if_pos hq,if_pos hq];rfl
   ·rw[if_neg hq,if_neg hq];rfl
 ·rw[decide_eq_true (by omega),cond_true,cF,cond_true,if_neg (by omega)]
theorem JK (c:Condition)(h:bb c):Ft c=some (kU c):=by
 unfold Ft kU
 rw[show (0:Int)=((0:Nat):Int) from rfl,Jw c h 0 (by omega),Option.bind_some]
 have:=dW c
 congr 1
 cases dN c with
 | false=>rfl
 | true=>
  by_cases h:aR c≤15
  ·rw[if_pos ⟨rfl,by omega⟩,decide_eq_true (by omega),decide_eq_true h];rfl
  ·rw[if_neg (by omega),decide_eq_false h];rfl
mutual
def hP:Condition→List ac
 | ⟨op,name,_,parts⟩=>(if op=2 then [name] else [])++dz parts
def dz:List Condition→List ac
 | []=>[]
 | x::xs=>hP x++dz xs
end
theorem Cu (c:Condition):hP c=(if c.Op=2 then [c.Name] else [])++dz c.Parts:=by cases c;simp only[hP]
theorem vj:∀(a b:List Condition),dz (a++b)=dz a++dz b
 | [],b=>rfl
 | x::a,b=>by simp only[List.cons_append,dz,vj a b,List.append_assoc]
theorem sQ (a:List Condition)(i:Nat)(h:i<a.length):dz (a.take (i+1))=dz (a.take i)++hP a[i]:=by
 rw[List.take_add_one,List.getElem?_eq_getElem h,vj]
 simp[dz]
mutual
theorem An:∀c,(hP c).length≤aR c
 | ⟨op,name,day,parts⟩=>by
  have:=oK parts
  simp only[hP,aR,List.length_append]
  split<;>simp<;>omega
theorem oK:∀a,(dz a).length≤az a
 | []=>by simp[dz]
 | x::a=>by
  have h1:=An x
  have h2:=oK a
  simp only[dz,az,List.length_append]
  omega
end
theorem IB (c:Condition):∀l:List ac,l.length+aR c≤1000000→KF c l=some (l++hP c):=by
 refine dX (P:=fun c=>∀l:List ac,l.length+aR c≤1000000→KF c l=some (l++hP c)) ?_ c
 intro c ih l hl
 have hnc:=dW c
 have hpl:=fA c.Parts
 rw[Rq]
 unfold uu
 have h0:(bif (c.Op==2) then ((kc 16 l [c.Name]).bind fun a8=>some (.inr a8)) else (some (.inr l)):Option (List ac⊕List ac))=some (.inr (l++if c.Op=2 then [c.Name] else [])):=by
  rw[pP]
  by_cases h:c.Op=2
  ·rw[decide_eq_true h,cond_true,v8 (by omega) (by omega),if_pos h];rfl
  ·rw[decide_eq_false h,cond_false,if_neg h,List.append_nil]
 rw[h0,cF]
 have hlen:(l++if c.Op=2 then [c.Name] else []).length≤l.length+1:=by
  rw[List.length_append];split<;>simp
 rw[Cu,←List.append_assoc]
 generalize (l++if c.Op=2 then [c.Name] else [])=l1 at hlen ⊢
 obtain⟨y,h1,h2⟩:=nN (L:=fun i (s:List ac)=>kZ (ay la) c l ((i:Int),s)) c.Parts.length (fun i s=>s=l1++dz (c.Parts.take i)) (fun y=>y=.inr (l1++dz c.Parts)) (s:=l1)
  (by
   intro i s hi hj
   have hx:=List.getElem?_eq_getElem hi
   have h3:=tY c.Parts i hi
   have h4:=mR c.Parts (i+1)
   have h5:=oK (c.Parts.take i)
   refine .inl ⟨l1++dz (c.Parts.take (i+1)),rfl,?_⟩
   show kZ (ay la) c l ((i:Int),s)=_
   rw[Cy,iB]
   simp only[b9,decide_eq_true hi,cond_true,cg,hx,Option.bind_some]
   rw[show ay la (c.Parts[i],s)=_ from ih _ (List.getElem_mem hi) s (by rw[hj,List.length_append];omega),Option.bind_some,co (by omega),hj,sQ _ _ hi,List.append_assoc])
  (by
   intro s hj
   refine⟨_,rfl,?_⟩
   rw[List.take_length] at hj
   show kZ (ay la) c l ((c.Parts.length:Int),s)=_
   rw[Cy,iB]
   simp only[b9,decide_eq_false (Nat.lt_irrefl _),cond_false]
   rw[hj]) (by simp[dz])
 rw[show kZ (ay la) c l (0,l1)=some y from h2,h1]
 rfl
theorem IC {c:Condition}(h:lS c=true)(ho:c.Op=2∨c.Op=3):c.Parts=[]:=by
 rw[qi,vS,Er] at h
 rw[Bool.and_eq_true,Bool.and_eq_true,decide_eq_true_iff] at h
 have:=h.1.2
 rw[if_neg (by omega),if_neg (by omega)] at this
 exact List.length_eq_zero_iff.1 this
theorem Ib (c:Condition):dN c=true→∀l:List ac,l.length+aR c≤1000000→l.Pairwise StrL.Lt→∃r,Gm l c=some r∧r.Pairwise StrL.Lt∧(∀x,x∈r↔x∈l∨x∈hP c)∧r.length≤l.length+aR c:=by
 refine dX (P:=fun c=>dN c=true→∀l:List ac,l.length+aR c≤1000000→l.Pairwise StrL.Lt→∃r,Gm l c=some r∧r.Pairwise StrL.Lt∧(∀x,x∈r↔x∈l∨x∈hP c)∧r.length≤l.length+aR c) ?_ c
 intro c ih hf l hl hs
 have hnc:=dW c
 have hpl:=fA c.Parts
 rw[oo,Bool.and_eq_true,List.all_eq_true] at hf
 rw[Q7]
 unfold pS
 rw[pP,Cu]
 by_cases ho:c.Op=2
 ·obtain⟨r,e,r1,r2,r3⟩:=StrL.put_val l c.Name (by omega) hs
  rw[decide_eq_true ho,cond_true,e,if_pos ho,IC hf.1 (.inl ho)]
  exact⟨r,rfl,r1,fun x=>by rw[r2];simp[dz],by omega⟩
 rw[decide_eq_false ho,cond_false,if_neg ho,List.nil_append]
 obtain⟨y,h1,h2⟩:=nN (L:=fun i (s:List ac)=>jm (ay ja) l c ((i:Int),s)) c.Parts.length
  (fun i s=>s.Pairwise StrL.Lt∧(∀x,x∈s↔x∈l∨x∈dz (c.Parts.take i))∧s.length≤l.length+az (c.Parts.take i))
  (fun y=>∃r,y=.inr r∧r.Pairwise StrL.Lt∧(∀x,x∈r↔x∈l∨x∈dz c.Parts)∧r.length≤l.length+aR c) (s:=l)
  (by
   rintro i s hi ⟨j1,j2,j3⟩
   have hx:=List.getElem?_eq_getElem hi
   have h3:=tY c.Parts i hi
   have h4:=mR c.Parts (i+1)
   obtain⟨r,e,r1,r2,r3⟩:=ih _ (List.getElem_mem hi) (hf.2 _ (List.getElem_mem hi)) s (by omega) j1
   refine .inl ⟨r,⟨r1,fun x=>?_,by omega⟩,?_⟩
   ·rw[r2,j2,sQ _ _ hi,List.mem_append,or_assoc]
   show jm (ay ja) l c ((i:Int),s)=_
   rw[AN,gQ]
   simp only[b9,decide_eq_true hi,cond_true,cg,hx,Option.bind_some]
   rw[show ay ja (s,c.Parts[i])=_ from e,Option.bind_some,co (by omega)])
  (by
   rintro s ⟨j1,j2,j3⟩
   rw[List.take_length] at *
   refine⟨.inr s,⟨s,rfl,j1,j2,by omega⟩,?_⟩
   show jm (ay ja) l c ((c.Parts.length:Int),s)=_
   rw[AN,gQ]
   simp only[b9,decide_eq_false (Nat.lt_irrefl _),cond_false]) ⟨hs,fun x=>by simp[dz],by simp[az]⟩
 obtain⟨r,rfl,hr⟩:=h1
 rw[show jm (ay ja) l c (0,l)=some (.inr r) from h2]
 exact⟨r,rfl,hr⟩
theorem EW (l:List ac)(s:ac)(hl:l.length≤1048576):oT l s=some (l.contains s):=by
 unfold oT xh
 rw[uj (L:=na l s) (a:=l) (p:=fun e=>some (s==e)) (q:=fun e=>s==e) (fun _ _=>rfl) (fun x=>by rw[yS,jh]<;>rfl) (by omega)]
 cases h:l.findIdx? (fun e=>s==e) with
 | none=>
  have:l.contains s=false:=by
   rw[List.findIdx?_eq_none_iff] at h
   rw[Bool.eq_false_iff]
   intro hc
   rw[List.contains_iff_exists_mem_beq] at hc
   obtain⟨w,hw,he⟩:=hc
   rw[h w hw] at he
   cases he
  rw[this]
  rfl
 | some i=>
  have:l.contains s=true:=by
   rw[List.findIdx?_eq_some_iff_getElem] at h
   obtain⟨hi,he,_⟩:=h
   rw[List.contains_iff_exists_mem_beq]
   exact⟨_,List.getElem_mem hi,he⟩
  rw[this]
  simp
theorem NU (a b:ac):(a==b)=(b==a):=by
 rw[uz,uz]
 by_cases h:a=b
 ·simp[h]
 ·simp[h,Ne.symm h]
theorem P1 (l:List ac)(s:ac)(hl:l.length≤1048576):xl l s=some (l.contains s):=by
 unfold xl
 rw[Cf (L:=pO l s) (a:=l) (p:=fun e=>some (e==s)) (q:=fun e=>e==s) (r:=true) (fun _ _=>rfl) (fun x=>by rw[JA,kt]<;>rfl) (by omega)]
 have:(l.any fun e=>e==s)=l.contains s:=by
  rw[List.contains_eq_any_beq]
  congr 1
  funext e
  exact NU e s
 rw[this]
 cases l.contains s<;>rfl
def MW (l:List ac)(k:Nat):Bool:=match l[k]? with
 | some e=>!fQ e||(l.take k).contains e
 | none=>false
def tx (l:List ac):Nat→Nat→Bool
 | 0,_=>true
 | n+1,k=>!MW l k&&tx l n (k+1)
theorem Fh {α:Type}{l:List α}{k:Nat}(h:k≤l.length):kd l 0 (k:Int)=some (l.take k):=by
 unfold kd
 rw[if_pos (by omega)]
 simp
theorem uI (l:List ac)(cs:List Clause)(hl:mb nm l):∀(n k:Nat),k+n=l.length→pQ ⟨l,cs⟩ (k:Int)=some (bif tx l n k then .inr () else .inl false)
 | 0,k,hk=>by
  have h1:=hl.1
  rw[xT,i6]
  simp only[b9]
  rw[decide_eq_false (by omega)]
  rfl
 | n+1,k,hk=>by
  have h1:=hl.1
  obtain⟨e,he⟩:∃e,l[k]?=some e:=⟨_,List.getElem?_eq_getElem (by omega)⟩
  rw[xT,i6]
  simp only[b9]
  rw[decide_eq_true (by omega)]
  simp only[cond_true,cg,he,Option.bind_some,nZ e (hl.2 e (List.mem_of_getElem? he)),Fh (show k≤l.length by omega),P1 _ e (show (l.take k).length≤1048576 by rw[List.length_take];omega)]
  rw[co (by omega),uI l cs hl n (k+1) (by omega)]
  simp only[tx,MW,he]
  cases fQ e<;>cases (l.take k).contains e<;>rfl
theorem vz (l:List ac)(hl:mb nm l):∀(n k:Nat),k+n=l.length→tC l (k:Int)=some (bif tx l n k then .inr () else .inl false)
 | 0,k,hk=>by
  have h1:=hl.1
  rw[Dd,jU]
  simp only[b9]
  rw[decide_eq_false (by omega)]
  rfl
 | n+1,k,hk=>by
  have h1:=hl.1
  obtain⟨e,he⟩:∃e,l[k]?=some e:=⟨_,List.getElem?_eq_getElem (by omega)⟩
  rw[Dd,jU]
  simp only[b9]
  rw[decide_eq_true (by omega)]
  simp only[cond_true,cg,he,Option.bind_some,nU e (hl.2 e (List.mem_of_getElem? he)),Fh (show k≤l.length by omega),EW _ e (show (l.take k).length≤1048576 by rw[List.length_take];omega)]
  rw[co (by omega),vz l hl n (k+1) (by omega)]
  simp only[tx,MW,he]
  cases fQ e<;>cases (l.take k).contains e<;>rfl
def mQ (l:List ac):Bool:=tx l l.length 0&&eg (len l) 2 4
theorem O0 (l:List ac)(cs:List Clause)(hl:mb nm l):tD ⟨l,cs⟩=some (mQ l):=by
 unfold tD mQ
 have:=uI l cs hl l.length 0 (by omega)
 rw[show (0:Int)=((0:Nat):Int) by rfl,this]
 simp only[pB]
 cases tx l l.length 0<;>rfl
theorem NY (l:List ac)(hl:mb nm l):FQ l=some (mQ l):=by
 unfold FQ mQ
 have:=vz l hl l.length 0 (by omega)
 rw[show (0:Int)=((0:Nat):Int) by rfl,this]
 simp only[mX]
 cases tx l l.length 0<;>rfl
def gW (cs:List Clause)(id:ac):Int:=match cs.findIdx? (fun e=>e.Id==id) with
 | some i=>(i:Int)
 | none=>-1
theorem CD (c:Contract)(id:ac)(hl:c.Clauses.length≤1048576):qv c id=some (gW c.Clauses id):=by
 unfold qv gW
 rw[uj (L:=pJ c id) (a:=c.Clauses) (p:=fun e=>some (e.Id==id)) (q:=fun e=>e.Id==id) (fun _ _=>rfl) (fun x=>by rw[IO,kD]<;>rfl) (by omega)]
 cases c.Clauses.findIdx? (fun e=>e.Id==id)<;>rfl
theorem Cn (c:Contract)(id:ac)(hl:c.Clauses.length≤1048576):xG c id=some (gW c.Clauses id):=by
 unfold xG BN gW
 rw[uj (L:=pn c.Clauses id) (a:=c.Clauses) (p:=fun e=>some (e.Id==id)) (q:=fun e=>e.Id==id) (fun _ _=>rfl) (fun x=>by rw[Jb,kx]<;>rfl) (by omega)]
 cases c.Clauses.findIdx? (fun e=>e.Id==id)<;>rfl
theorem HY (cs:List Clause)(id:ac):gW cs id=-1∨∃j:Nat,gW cs id=(j:Int)∧j<cs.length:=by
 unfold gW
 cases h:cs.findIdx? (fun e=>e.Id==id) with
 | none=>exact .inl rfl
 | some j=>
  rw[List.findIdx?_eq_some_iff_getElem] at h
  exact .inr ⟨j,rfl,h.1⟩
def Ey (cs:List Clause)(i:Int)(e:Clause):Bool:=match gW cs e.Repair with
 | .ofNat k=>match cs[k]? with
  | some e'=>((k:Int) != i)&&((e'.Kind==1)&&(e.Kind != 3))
  | none=>false
 | .negSucc _=>false
def fw (c:Contract)(i:Int)(e:Clause):Bool:=
 fQ e.Id&&(fQ e.Action&&(eg e.Kind 1 4&&(eg e.Party 0 (an (len c.Parties - 1))&&(eg e.Other 0 (an (len c.Parties - 1))&&(!(e.Party==e.Other)&&(kU e.When&&(eg e.Amount 0 1000000&&(eg e.Within 0 400&&(!(bif e.Kind != 1 then (bif e.Amount != 0 then true else e.Within != 0) else false) &&
  (bif e.Repair==[] then true else Ey c.Clauses i e))))))))))
theorem Oa (c:Contract)(i:Int)(e:Clause)(hl:c.Clauses.length≤1048576):((qv c e.Repair).bind fun r8=>bd (ρ:=Bool) (bif (decide (r8≥0)) then (bR (ρ:=Bool) (bif (r8 != i) then ((aP c.Clauses r8).bind fun e11=>cJ (bif (e11.Kind==1) then ((e.Kind != 3)) else (false)) fun u12:Bool=>some (.inr u12)) else (some (.inr false))) fun u10:Bool=>some (.inr u10)) else (some (.inr false))) fun u9:Bool=>some u9)=some (Ey c.Clauses i e):=by
 rw[CD c _ hl,Option.bind_some]
 unfold Ey
 rcases HY c.Clauses e.Repair with h | ⟨j,h,hj⟩
 ·rw[h];rfl
 ·rw[h,decide_eq_true (by omega),cond_true,cg,List.getElem?_eq_getElem hj,Option.bind_some]
  show _=some (match c.Clauses[j]? with | some e'=>_ | none=>false)
  rw[List.getElem?_eq_getElem hj]
  show _=some (((j:Int) != i)&&((c.Clauses[j].Kind==1)&&(e.Kind != 3)))
  cases ((j:Int) != i)<;>cases (c.Clauses[j].Kind==1)<;>rfl
theorem NA (c:Contract)(i:Int)(e:Clause)(hl:c.Clauses.length≤1048576):((xG c e.Repair).bind fun r10=>bd (ρ:=Bool) (bif (e.Kind != 3) then (bR (ρ:=Bool) (bif (decide (r10≥0)) then (bR (ρ:=Bool) (bif (r10 != i) then ((aP c.Clauses r10).bind fun e14=>some (.inr (e14.Kind==1))) else (some (.inr false))) fun u13:Bool=>some (.inr u13)) else (some (.inr false))) fun u12:Bool=>some (.inr u12)) else (some (.inr false))) fun u11:Bool=>some u11)=some (Ey c.Clauses i e):=by
 rw[Cn c _ hl,Option.bind_some]
 unfold Ey
 rcases HY c.Clauses e.Repair with h | ⟨j,h,hj⟩
 ·rw[h];cases (e.Kind != 3)<;>rfl
 ·rw[h,decide_eq_true (by omega),cond_true,cg,List.getElem?_eq_getElem hj,Option.bind_some]
  show _=some (match c.Clauses[j]? with | some e'=>_ | none=>false)
  rw[List.getElem?_eq_getElem hj]
  show _=some (((j:Int) != i)&&((c.Clauses[j].Kind==1)&&(e.Kind != 3)))
  cases ((j:Int) != i)<;>cases (c.Clauses[j].Kind==1)<;>cases (e.Kind != 3)<;>rfl
theorem GA (c:Contract)(i:Int)(e:Clause)(he:aP c.Clauses i=some e)(hs:eN e)(hl:c.Clauses.length≤1048576):v7 c i=some (fw c i e):=by
 unfold v7 fw
 rw[he,Option.bind_some,Oa c i e hl]
 simp only[nZ _ hs.1,nZ _ hs.2.2.2.1,pB,L9 _ hs.2.2.2.2.2.2.1,Option.bind_some,eY]
 cases fQ e.Id with | false=>rfl | true=>?_
 cases fQ e.Action with | false=>rfl | true=>?_
 cases eg e.Kind 1 4 with | false=>rfl | true=>?_
 cases eg e.Party 0 (an (len c.Parties - 1)) with | false=>rfl | true=>?_
 cases eg e.Other 0 (an (len c.Parties - 1)) with | false=>rfl | true=>?_
 cases (e.Party==e.Other) with | true=>rfl | false=>?_
 cases kU e.When with | false=>rfl | true=>?_
 cases eg e.Amount 0 1000000 with | false=>rfl | true=>?_
 cases eg e.Within 0 400 with | false=>rfl | true=>?_
 cases (bif e.Kind != 1 then (bif e.Amount != 0 then true else e.Within != 0) else false) with | true=>rfl | false=>?_
 cases (e.Repair==([]:ac))<;>rfl
theorem Ha (c:Contract)(i:Int)(e:Clause)(he:aP c.Clauses i=some e)(hs:eN e)(hl:c.Clauses.length≤1048576):F0 c i=some ((gW c.Clauses e.Id==i)&&fw c i e):=by
 unfold F0 fw
 rw[he,Option.bind_some,NA c i e hl]
 simp only[nU _ hs.1,nU _ hs.2.2.2.1,mX,JK _ hs.2.2.2.2.2.2.1,Option.bind_some,eY,Cn c _ hl,bne]
 cases fQ e.Id with | false=>cases (gW c.Clauses e.Id==i)<;>rfl | true=>?_
 cases (gW c.Clauses e.Id==i) with | false=>rfl | true=>?_
 cases fQ e.Action with | false=>rfl | true=>?_
 cases eg e.Kind 1 4 with | false=>rfl | true=>?_
 cases eg e.Party 0 (an (len c.Parties - 1)) with | false=>rfl | true=>?_
 cases eg e.Other 0 (an (len c.Parties - 1)) with | false=>rfl | true=>?_
 cases (e.Party==e.Other) with | true=>rfl | false=>?_
 cases kU e.When with | false=>rfl | true=>?_
 cases eg e.Amount 0 1000000 with | false=>rfl | true=>?_
 cases eg e.Within 0 400 with | false=>rfl | true=>?_
 cases (bif !(e.Kind==1) then (bif !(e.Amount==0) then true else !(e.Within==0)) else false) with | true=>rfl | false=>?_
 cases (e.Repair==([]:ac))<;>rfl
def o7 (c:Contract)(i:Nat):Bool:=match c.Clauses[i]? with
 | some e=>(gW c.Clauses e.Id==(i:Int))&&fw c (i:Int) e
 | none=>true
def gc (c:Contract):Bool:=!((List.range c.Clauses.length).any fun i=>!o7 c i)
theorem tz {c:Contract}:gc c=true↔∀(i:Nat) e,c.Clauses[i]?=some e→gW c.Clauses e.Id=(i:Int)∧fw c (i:Int) e=true:=by
 unfold gc
 rw[Bool.not_eq_true',←Bool.not_eq_true,List.any_eq_true]
 constructor
 ·intro h i e he
  have hi:=(List.getElem?_eq_some_iff.1 he).1
  cases h1:o7 c i with
  | false=>exact absurd ⟨i,List.mem_range.2 hi,by rw[h1];rfl⟩ h
  | true=>
   simp only[o7,he,Bool.and_eq_true,beq_iff_eq] at h1
   exact h1
 ·rintro h ⟨i,hi,h2⟩
  rw[List.mem_range] at hi
  have h1:=h i _ (List.getElem?_eq_getElem hi)
  simp only[o7,List.getElem?_eq_getElem hi,h1.1,h1.2,beq_self_eq_true,Bool.and_self,Bool.not_true] at h2
  cases h2
theorem Fy (c:Contract)(hc:ed c):js c 0=some (bif gc c then .inr () else .inl false):=by
 have hl:c.Clauses.length≤1048576:=hc.2.1
 have h:=vF (a:=List.range c.Clauses.length) (q:=fun i=>!o7 c i) (y0:=(Sum.inl false:Bool⊕Unit)) (y1:=.inr ()) (L:=fun i=>js c (i:Int))
  (fun i x hx=>by
   obtain⟨hi,hx'⟩:=List.getElem?_eq_some_iff.1 hx
   rw[List.getElem_range] at hx'
   subst hx'
   rw[List.length_range] at hi
   have he:=List.getElem?_eq_getElem hi
   have hg:aP c.Clauses (i:Int)=some c.Clauses[i]:=by rw[cg,he]
   show js c (i:Int)=_
   rw[Au,iL,b9,decide_eq_true hi,cond_true,hg,Option.bind_some,CD c _ hl,Option.bind_some,GA c _ _ hg (hc.2.2 _ (List.getElem_mem hi)) hl,co (by omega)]
   simp only[o7,he,bne]
   cases (gW c.Clauses c.Clauses[i].Id==(i:Int))<;>cases fw c (i:Int) c.Clauses[i]<;>rfl)
  (by
   rw[List.length_range]
   show js c (c.Clauses.length:Int)=_
   rw[Au,iL,b9,decide_eq_false (Nat.lt_irrefl _),cond_false])
 rw[show js c 0=_ from h]
 unfold gc
 cases (List.range c.Clauses.length).any fun i=>!o7 c i<;>rfl
theorem F2 (c:Contract)(hc:ed c):kQ c 0=some (bif gc c then .inr () else .inl false):=by
 have hl:c.Clauses.length≤1048576:=hc.2.1
 have h:=vF (a:=List.range c.Clauses.length) (q:=fun i=>!o7 c i) (y0:=(Sum.inl false:Bool⊕Unit)) (y1:=.inr ()) (L:=fun i=>kQ c (i:Int))
  (fun i x hx=>by
   obtain⟨hi,hx'⟩:=List.getElem?_eq_some_iff.1 hx
   rw[List.getElem_range] at hx'
   subst hx'
   rw[List.length_range] at hi
   have he:=List.getElem?_eq_getElem hi
   have hg:aP c.Clauses (i:Int)=some c.Clauses[i]:=by rw[cg,he]
   show kQ c (i:Int)=_
   rw[Cz,jT,b9,decide_eq_true hi,cond_true,Ha c _ _ hg (hc.2.2 _ (List.getElem_mem hi)) hl,Option.bind_some,co (by omega)]
   simp only[o7,he])
  (by
   rw[List.length_range]
   show kQ c (c.Clauses.length:Int)=_
   rw[Cz,jT,b9,decide_eq_false (Nat.lt_irrefl _),cond_false])
 rw[show kQ c 0=_ from h]
 unfold gc
 cases (List.range c.Clauses.length).any fun i=>!o7 c i<;>rfl
def gw (cs:List Clause):List ac:=cs.flatMap fun e=>e.Action::hP e.When
theorem sC {c:Contract}{i:Int}{e:Clause}(h:fw c i e=true):kU e.When=true:=by
 simp only[fw,Bool.and_eq_true] at h
 exact h.2.2.2.2.2.2.1
theorem oP (cs:List Clause)(i:Nat)(h:i<cs.length):gw (cs.take (i+1))=gw (cs.take i)++(cs[i].Action::hP cs[i].When):=by
 unfold gw
 rw[List.take_add_one,List.getElem?_eq_getElem h,List.flatMap_append]
 simp
theorem E1 (c:Contract)(hc:ed c)(h12:c.Clauses.length≤12)(hv:gc c=true):∃r,re c=some r∧EX c=some r∧r.Pairwise StrL.Lt∧(∀x,x∈r↔x∈gw c.Clauses)∧r.length≤1000:=by
 have hcond:∀i (hi:i<c.Clauses.length),dN c.Clauses[i].When=true∧aR c.Clauses[i].When≤15:=fun i hi=>by
  have h1:=sC (tz.1 hv i _ (List.getElem?_eq_getElem hi)).2
  unfold kU at h1
  rw[Bool.and_eq_true,decide_eq_true_iff] at h1
  exact h1
 have hs:∃r,re c=some r∧r.Pairwise StrL.Lt∧(∀x,x∈r↔x∈gw c.Clauses)∧r.length≤16*c.Clauses.length:=by
  obtain⟨y,⟨r,rfl,hr⟩,h2⟩:=nN (L:=fun i (s:List ac)=>kj c ((i:Int),s)) c.Clauses.length
   (fun i s=>s.Pairwise StrL.Lt∧(∀x,x∈s↔x∈gw (c.Clauses.take i))∧s.length≤16*i)
   (fun y=>∃r,y=.inr r∧r.Pairwise StrL.Lt∧(∀x,x∈r↔x∈gw c.Clauses)∧r.length≤16*c.Clauses.length) (s:=[])
   (by
    rintro i s hi ⟨j1,j2,j3⟩
    have he:=List.getElem?_eq_getElem hi
    obtain⟨f1,f2⟩:=hcond i hi
    obtain⟨r1,e1,p1,m1,l1⟩:=StrL.put_val s c.Clauses[i].Action (by omega) j1
    obtain⟨r2,e2,p2,m2,l2⟩:=Ib _ f1 r1 (by omega) p1
    refine .inl ⟨r2,⟨p2,fun x=>?_,by omega⟩,?_⟩
    ·rw[m2,m1,j2,oP _ _ hi,List.mem_append,List.mem_cons,or_assoc]
    ·show kj c ((i:Int),s)=_
     rw[yg,je]
     simp only[b9,decide_eq_true hi,cond_true,cg,he,Option.bind_some,e1,e2]
     rw[co (by omega)])
   (by
    rintro s ⟨j1,j2,j3⟩
    rw[List.take_length] at j2
    refine⟨.inr s,⟨s,rfl,j1,j2,j3⟩,?_⟩
    show kj c ((c.Clauses.length:Int),s)=_
    rw[yg,je]
    simp only[b9,decide_eq_false (Nat.lt_irrefl _),cond_false]) ⟨List.Pairwise.nil,fun x=>by simp[gw],by simp⟩
  refine⟨r,?_,hr⟩
  unfold re
  rw[show kj c (0,[])=some (.inr r) from h2]
  rfl
 obtain⟨r,e,p,m,l⟩:=hs
 refine⟨r,e,?_,p,m,by omega⟩
 obtain⟨y,h1,h2⟩:=nN (L:=fun i (s:List ac)=>mm c ((i:Int),s)) c.Clauses.length
  (fun i s=>s=gw (c.Clauses.take i)∧s.length≤16*i) (fun y=>y=.inr (gw c.Clauses)∧(gw c.Clauses).length≤16*c.Clauses.length) (s:=[])
  (by
   rintro i s hi ⟨j1,j2⟩
   have he:=List.getElem?_eq_getElem hi
   obtain⟨f1,f2⟩:=hcond i hi
   have hlen:=An c.Clauses[i].When
   refine .inl ⟨gw (c.Clauses.take (i+1)),⟨rfl,?_⟩,?_⟩
   ·rw[oP _ _ hi,←j1,List.length_append,List.length_cons];omega
   ·show mm c ((i:Int),s)=_
    rw[CE,kb]
    simp only[b9,decide_eq_true hi,cond_true,cg,he,Option.bind_some]
    rw[v8 (by omega) (by omega),Option.bind_some,IB _ _ (by rw[List.length_append,List.length_singleton];omega),Option.bind_some,co (by omega),oP _ _ hi,←j1,List.append_assoc]
    try rfl)
  (by
   rintro s ⟨j1,j2⟩
   rw[List.take_length] at j1
   refine⟨_,⟨rfl,by rw[←j1];exact j2⟩,?_⟩
   show mm c ((c.Clauses.length:Int),s)=_
   rw[CE,kb]
   simp only[b9,decide_eq_false (Nat.lt_irrefl _),cond_false]
   rw[j1]) ⟨by simp[gw],by simp⟩
 unfold EX
 rw[show mm c (0,[])=some y from h2,h1.1,cF,QY _ r (by omega) p m]
 rfl
noncomputable def ny (c:Contract):Bool:=(eg (len c.Clauses) 1 12&&mQ c.Parties)&&(gc c&&(match re c with | some r=>decide (len r≤16) | none=>false))
theorem Dg (c:Contract)(hc:ed c):ww c=some (ny c):=by
 unfold ww ny
 have hp:=O0 c.Parties c.Clauses hc.1
 rw[pB,show tD c=_ from hp,Fy c hc,Option.bind_some]
 cases h1:eg (len c.Clauses) 1 12 with | false=>rfl | true=>?_
 cases mQ c.Parties with | false=>rfl | true=>?_
 cases h2:gc c with | false=>rfl | true=>?_
 rw[kn] at h1
 obtain⟨r,e,_⟩:=E1 c hc (by simp only[len] at h1;omega) h2
 rw[e]
 rfl
theorem Dh (c:Contract)(hc:ed c):FC c=some (ny c):=by
 unfold FC ny
 rw[NY c.Parties hc.1,F2 c hc,Option.bind_some,mX]
 cases h1:eg (len c.Clauses) 1 12 with | false=>cases mQ c.Parties<;>rfl | true=>?_
 cases mQ c.Parties with | false=>rfl | true=>?_
 cases h2:gc c with | false=>rfl | true=>?_
 rw[kn] at h1
 obtain⟨r,e,e2,_⟩:=E1 c hc (by simp only[len] at h1;omega) h2
 rw[e,e2]
 rfl
theorem Fb {c:Contract}(h:ny c=true):1≤c.Clauses.length∧c.Clauses.length≤12∧mQ c.Parties=true∧∀(i:Nat) e,c.Clauses[i]?=some e→gW c.Clauses e.Id=(i:Int)∧fw c (i:Int) e=true:=by
 simp only[ny,Bool.and_eq_true,kn] at h
 obtain⟨⟨⟨h1,h2⟩,h3⟩,h4,_⟩:=h
 simp only[len] at h1 h2
 exact⟨by omega,by omega,h3,tz.1 h4⟩
theorem Sf {α:Type}(l:List α)(i:Int)(hl:l.length≤1048576):eg i 0 (an (len l - 1))=(aP l i).isSome:=by
 unfold len
 rw[cV (by omega) (by omega)]
 unfold eg aP
 by_cases h0:0≤i
 ·rw[if_pos h0,decide_eq_true h0,Bool.true_and]
  by_cases h1:i≤(l.length:Int) - 1
  ·rw[decide_eq_true h1,List.getElem?_eq_getElem (by omega)];rfl
  ·rw[decide_eq_false h1,List.getElem?_eq_none (by omega)];rfl
 ·rw[if_neg h0,decide_eq_false h0];rfl
theorem N1 {c:Condition}(h:lS c=true):(c.Op=1∧c.Parts=[])∨(c.Op=2∧c.Parts=[])∨(c.Op=3∧c.Parts=[])∨(c.Op=4∧∃p,c.Parts=[p])∨(c.Op=5∧∃p q,c.Parts=[p,q])∨(c.Op=6∧∃p q,c.Parts=[p,q]):=by
 rw[qi,vS,Er] at h
 rw[Bool.and_eq_true,Bool.and_eq_true,decide_eq_true_iff,kn] at h
 obtain⟨⟨⟨h1,h2⟩,h3⟩,_⟩:=h
 have ho:c.Op=1∨c.Op=2∨c.Op=3∨c.Op=4∨c.Op=5∨c.Op=6:=by omega
 have pw:∀{a:List Condition},a.length=2→∃p q,a=[p,q]:=fun {a} h=>by
  match a,h with
  | [p,q],_=>exact⟨p,q,rfl⟩
 have one:∀{a:List Condition},a.length=1→∃p,a=[p]:=fun {a} h=>by
  match a,h with
  | [p],_=>exact⟨p,rfl⟩
 rcases ho with h | h | h | h | h | h<;>simp only[h] at h3 ⊢
 ·exact .inl ⟨trivial,List.length_eq_zero_iff.1 (by simpa using h3)⟩
 ·exact .inr (.inl ⟨trivial,List.length_eq_zero_iff.1 (by simpa using h3)⟩)
 ·exact .inr (.inr (.inl ⟨trivial,List.length_eq_zero_iff.1 (by simpa using h3)⟩))
 ·exact .inr (.inr (.inr (.inl ⟨trivial,one (by simpa using h3)⟩)))
 ·exact .inr (.inr (.inr (.inr (.inl ⟨trivial,pw (by simpa using h3)⟩))))
 ·exact .inr (.inr (.inr (.inr (.inr ⟨trivial,pw (by simpa using h3)⟩))))
def nk (y:Int):Int:=if y % 4=0 then 1 else 0
def ir (y m:Int):Int:=if m=2 then 28+nk y else if m=4∨m=6∨m=9∨m=11 then 30 else 31
def m0 (y:Int):Nat→Int
 | 0=>0
 | k+1=>m0 y k+ir y ((k+1:Nat):Int)
def y0 (y:Int):Int:=365*(y - 2000)+(y - 2000+3) / 4
theorem uq (y:Int):0≤nk y∧nk y≤1:=by unfold nk;split<;>omega
theorem pq (y m:Int):28≤ir y m∧ir y m≤31:=by
 have:=uq y
 unfold ir
 split
 ·omega
 ·split<;>omega
theorem tM (y:Int):∀k:Nat,28*(k:Int)≤m0 y k∧m0 y k≤31*(k:Int)
 | 0=>by simp[m0]
 | k+1=>by
  have:=tM y k
  have:=pq y ((k+1:Nat):Int)
  simp only[m0]
  omega
theorem BT (y : Int){a b : Nat}(h : a ≤ b) : m0 y a ≤ m0 y b := by
  induction b with
  | zero => have : a = 0 := by omega
            subst this; exact Int.le_refl _
  | succ b ih =>
    by_cases e : a = b + 1
    · subst e; exact Int.le_refl _
    · have := ih (by omega)
      have := pq y ((b + 1 : Nat) : Int)
      simp only [m0]
      omega
theorem Ip (y:Int):m0 y 12=365+nk y:=by simp[m0,ir];omega
theorem pb (y:Int):y0 (y+1)=y0 y+365+nk y:=by unfold y0 nk;split<;>omega
theorem QG {a b day:Int}(h1:y0 a≤day)(h2:day<y0 (a+1))(h3:y0 b≤day)(h4:day<y0 (b+1)):a=b:=by unfold y0 at *;omega
theorem Q5 {y r:Int}{a b:Nat}(h1:m0 y a≤r)(h2:r<m0 y (a+1))(h3:m0 y b≤r)(h4:r<m0 y (b+1)):a=b:=by
 rcases Nat.lt_trichotomy a b with h | h | h
 ·have:=BT y (show a+1≤b from h);omega
 ·exact h
 ·have:=BT y (show b+1≤a from h);omega
theorem Pp {y:Int}(hy:0≤y):y.tmod 4=y % 4:=Int.tmod_eq_emod_of_nonneg hy
theorem Cd:y0 2000=0:=by unfold y0;omega
def kK (day Y:Int)(M:Nat)(D:Int):Prop:=2000≤Y∧Y≤2099∧M≤11∧1≤D∧D≤ir Y ((M+1:Nat):Int)∧day=y0 Y+m0 Y M+D - 1
theorem kK.b {day Y:Int}{M:Nat}{D:Int}(h:kK day Y M D):y0 Y≤day∧day<y0 (Y+1)∧m0 Y M≤day - y0 Y∧day - y0 Y<m0 Y (M+1):=by
 obtain⟨h1,h2,h3,h4,h5,h6⟩:=h
 have he:m0 Y (M+1)=m0 Y M+ir Y ((M+1:Nat):Int):=rfl
 have hm:=BT Y (show M+1≤12 by omega)
 have h12:=Ip Y
 have hs:=pb Y
 have hk:=tM Y M
 omega
theorem kK.uniq {day Y Y':Int}{M M':Nat}{D D':Int}(h:kK day Y M D)(h':kK day Y' M' D'):Y=Y'∧M=M'∧D=D':=by
 have b:=h.b
 have b':=h'.b
 have e:=QG b.1 b.2.1 b'.1 b'.2.1
 subst e
 have e:=Q5 b.2.2.1 b.2.2.2 b'.2.2.1 b'.2.2.2
 subst e
 have h6:=h.2.2.2.2.2
 have h6':=h'.2.2.2.2.2
 exact⟨rfl,rfl,by omega⟩
theorem kK.range {day Y:Int}{M:Nat}{D:Int}(h:kK day Y M D):0≤day∧day≤36524:=by
 have b:=h.b
 have hb:0≤y0 Y∧y0 (Y+1)≤36525:=by have h1:=h.1;have h2:=h.2.1;unfold y0;omega
 omega
theorem vI (y m:Int)(hy:0≤y):yH y m=some (ir y m):=by
 simp only[yH,eY,Pp hy,ir,nk]
 by_cases e:m=2
 ·subst e
  by_cases f:y % 4=0
  ·simp[f]
  ·simp[f,beq_eq_false_iff_ne.2 f]
 by_cases a:m=4
 ·subst a;rfl
 by_cases b:m=6
 ·subst b;rfl
 by_cases c:m=9
 ·subst c;rfl
 by_cases d:m=11
 ·subst d;rfl
 ·simp[a,b,c,d,e,beq_eq_false_iff_ne.2 a,beq_eq_false_iff_ne.2 b,beq_eq_false_iff_ne.2 c,beq_eq_false_iff_ne.2 d,beq_eq_false_iff_ne.2 e]
theorem CA (y:Int)(hy:0≤y):CG y=some (365+nk y):=by
 have:=uq y
 unfold CG
 rw[vI _ _ hy]
 simp only[Option.bind_some,ir,if_true]
 rw[cV (by omega) (by omega)]
 congr 1
 omega
theorem L0 (day:Int)(hd:0≤day)(hd2:day≤36524):∀(n:Nat) (x:Int),x+n=2099→2000≤x→y0 x≤day→∃Y,tv day (day - y0 x,x)=some (.inr (day - y0 Y,Y))∧2000≤Y∧Y≤2099∧y0 Y≤day∧day<y0 (Y+1):=by
 intro n
 induction n with
 | zero=>
  intro x hn h0 hx
  rw[C6,jY]
  have hl:=uq x
  have hs:=pb x
  have:x=2099:=by omega
  have h9:day<y0 (x+1):=by subst this;unfold y0;omega
  simp only[CA x (by omega),Option.bind_some]
  rw[decide_eq_false (by omega),cond_false]
  exact⟨x,rfl,h0,by omega,hx,h9⟩
 | succ n ih=>
  intro x hn h0 hx
  rw[C6,jY]
  have hl:=uq x
  have hs:=pb x
  have hb:0≤y0 x:=by unfold y0;omega
  simp only[CA x (by omega),Option.bind_some]
  by_cases h:y0 (x+1)≤day
  ·rw[decide_eq_true (by omega),cond_true,cV (by omega) (by omega),cV (by omega) (by omega),show day - y0 x - (365+nk x)=day - y0 (x+1) by omega]
   exact ih (x+1) (by omega) (by omega) h
  ·rw[decide_eq_false (by omega),cond_false]
   exact⟨x,rfl,h0,by omega,hx,by omega⟩
theorem Io (day Y r:Int)(hd:0≤day)(hd2:day≤36524)(hY:2000≤Y)(hY2:Y≤2099)(hy0:y0 Y≤day)(hy:day<y0 (Y+1)):∀(n k:Nat),k+n=11→y0 Y+m0 Y k≤day→∃M:Nat,sh day (r,Y) (day - y0 Y - m0 Y k,((k+1:Nat):Int))=some (.inr (day - y0 Y - m0 Y M,((M+1:Nat):Int)))∧M≤11∧y0 Y+m0 Y M≤day∧day<y0 Y+m0 Y (M+1):=by
 intro n
 have hb:0≤y0 Y:=by unfold y0;omega
 induction n with
 | zero=>
  intro k hn hx
  obtain rfl:k=11:=by omega
  have h12:=Ip Y
  rw[pb] at hy
  have he:m0 Y 12=m0 Y 11+ir Y ((11+1:Nat):Int):=rfl
  rw[C7,ke]
  simp only[vI Y _ (show 0≤Y by omega),Option.bind_some]
  rw[decide_eq_false (by omega),cond_false]
  exact⟨11,rfl,by omega,hx,show day<y0 Y+m0 Y 12 by omega⟩
 | succ n ih=>
  intro k hn hx
  have he:m0 Y (k+1)=m0 Y k+ir Y ((k+1:Nat):Int):=rfl
  have hk:=tM Y k
  have hl:=pq Y ((k+1:Nat):Int)
  rw[C7,ke]
  simp only[vI Y _ (show 0≤Y by omega),Option.bind_some]
  by_cases h:y0 Y+m0 Y (k+1)≤day
  ·rw[decide_eq_true (by omega),cond_true,cV (by omega) (by omega),co (by omega),show day - y0 Y - m0 Y k - ir Y ((k+1:Nat):Int)=day - y0 Y - m0 Y (k+1) by omega]
   exact ih (k+1) (by omega) h
  ·rw[decide_eq_false (by omega),cond_false]
   exact⟨k,rfl,by omega,hx,by omega⟩
theorem IM (day:Int)(hd:0≤day)(hd2:day≤36524):∃(Y:Int) (M:Nat) (D:Int),CU day=some ⟨Y,((M+1:Nat):Int),D⟩∧kK day Y M D:=by
 obtain⟨Y,g1,g2,g3,g4,g5⟩:=L0 day hd hd2 99 2000 (by omega) (by omega) (by rw[Cd];exact hd)
 obtain⟨M,k1,k2,k3,k4⟩:=Io day Y (day - y0 Y) hd hd2 g2 g3 g4 g5 11 0 (by omega) (by simp only[m0];omega)
 have hk:=tM Y M
 have hb:0≤y0 Y:=by unfold y0;omega
 have he:m0 Y (M+1)=m0 Y M+ir Y ((M+1:Nat):Int):=rfl
 rw[Cd,Int.sub_zero] at g1
 simp only[m0,Int.sub_zero] at k1
 refine⟨Y,M,day - y0 Y - m0 Y M+1,?_,g2,g3,k2,by omega,by omega,by omega⟩
 unfold CU
 rw[g1]
 simp only[cF]
 rw[show (1:Int)=((0+1:Nat):Int) by rfl,k1]
 simp only[cF]
 rw[cV (by omega) (by omega)]
theorem Nh (y m:Int)(hy:0≤y):wa y m=some (ir y m):=by
 simp only[wa,eY,Pp hy,ir,nk]
 by_cases a:m=4
 ·subst a;rfl
 by_cases b:m=6
 ·subst b;rfl
 by_cases c:m=9
 ·subst c;rfl
 by_cases d:m=11
 ·subst d;rfl
 by_cases e:m=2
 ·subst e
  by_cases f:y % 4=0
  ·simp[f]
  ·simp[f,beq_eq_false_iff_ne.2 f]
 ·simp[a,b,c,d,e,beq_eq_false_iff_ne.2 a,beq_eq_false_iff_ne.2 b,beq_eq_false_iff_ne.2 c,beq_eq_false_iff_ne.2 d,beq_eq_false_iff_ne.2 e]
theorem uH (d:Date)(hy:0≤d.Year):∀(n k:Nat) (acc:Int),((k+1+n:Nat):Int)=d.Month→d.Month≤13→0≤acc→acc+31*(n:Int)≤1000000→pU d (acc,((k+1:Nat):Int))=some (.inr (acc+m0 d.Year (k+n) - m0 d.Year k))
 | 0,k,acc,hm,h13,ha,hb=>by
  rw[Ae,iO]
  rw[decide_eq_false (by omega),cond_false]
  simp only[Nat.add_zero]
  congr 2
  omega
 | n+1,k,acc,hm,h13,ha,hb=>by
  rw[Ae,iO]
  rw[decide_eq_true (by omega),cond_true]
  simp only[Nh _ _ hy,Option.bind_some]
  have hl:=pq d.Year ((k+1:Nat):Int)
  rw[cV (by omega) (by omega),co (by omega)]
  rw[uH d hy n (k+1) _ (by omega) h13 (by omega) (by omega)]
  rw[show k+(n+1)=k+1+n by omega]
  congr 2
  simp only[m0]
  omega
theorem wB (y dd:Int)(k:Nat)(hy:2000≤y)(hy2:y≤2100)(hm:k≤12)(hd:0≤dd)(hd2:dd≤100000):qN ⟨y,((k+1:Nat):Int),dd⟩=some (y0 y+m0 y k+dd - 1):=by
 have hk:=tM y k
 unfold qN
 simp only
 have e1:an (y - 2000)=y - 2000:=cV (by omega) (by omega)
 rw[e1]
 have e2:an (y - 2000+3)=y - 2000+3:=cV (by omega) (by omega)
 have e3:an (365*(y - 2000))=365*(y - 2000):=cV (by omega) (by omega)
 rw[e2,e3,Int.tdiv_eq_ediv_of_nonneg (by omega:0≤y - 2000+3)]
 have e4:an ((y - 2000+3) / 4)=(y - 2000+3) / 4:=cV (by omega) (by omega)
 rw[e4]
 have e5:an (365*(y - 2000)+(y - 2000+3) / 4)=y0 y:=cV (by omega) (by omega)
 rw[e5]
 have hb:0≤y0 y∧y0 y≤40000:=by unfold y0;omega
 rw[show (1:Int)=((0+1:Nat):Int) by rfl,uH ⟨y,((k+1:Nat):Int),dd⟩ (by simp only;omega) k 0 (y0 y) (by simp only;omega) (by simp only;omega) hb.1 (by omega)]
 simp only[cF,Nat.zero_add,m0]
 rw[show an (y0 y+m0 y k - 0+dd)=y0 y+m0 y k - 0+dd from cV (by omega) (by omega),cV (by omega) (by omega)]
 congr 1
 omega
theorem CJ (day:Int)(hd:0≤day)(hd2:day≤36524):∀(n:Nat) (x:Int),x+n=2099→2000≤x→y0 x≤day→∃Y,pI day x=some (.inr Y)∧2000≤Y∧Y≤2099∧y0 Y≤day∧day<y0 (Y+1)
 | 0,x,hn,h0,hx=>by
  rw[zo,iE]
  rw[decide_eq_false (by omega),cond_false]
  refine⟨x,rfl,h0,by omega,hx,?_⟩
  have:x=2099:=by omega
  subst this
  unfold y0
  omega
 | n+1,x,hn,h0,hx=>by
  rw[zo,iE]
  rw[decide_eq_true (by omega),cond_true,cV (by omega) (by omega)]
  rw[show (1:Int)=((0+1:Nat):Int) by rfl,wB (x+((0+1:Nat):Int)) _ 0 (by omega) (by omega) (by omega) (by omega) (by omega)]
  simp only[Option.bind_some,m0]
  have e:y0 (x+((0+1:Nat):Int))+0+((0+1:Nat):Int) - 1=y0 (x+1):=by simp
  rw[e]
  by_cases h:y0 (x+1)≤day
  ·rw[decide_eq_true h]
   exact CJ day hd hd2 n (x+1) (by omega) (by omega) h
  ·rw[decide_eq_false h]
   exact⟨x,rfl,h0,by omega,hx,by omega⟩
theorem yz (day Y:Int)(hd:0≤day)(hd2:day≤36524)(hY:2000≤Y)(hY2:Y≤2099)(hy:day<y0 (Y+1)):∀(n k:Nat),k+n=11→y0 Y+m0 Y k≤day→∃M:Nat,pE day Y ((k+1:Nat):Int)=some (.inr ((M+1:Nat):Int))∧M≤11∧y0 Y+m0 Y M≤day∧day<y0 Y+m0 Y (M+1)
 | 0,k,hn,hx=>by
  obtain rfl:k=11:=by omega
  rw[yt,iV]
  rw[decide_eq_false (by omega),cond_false]
  refine⟨11,rfl,by omega,hx,?_⟩
  rw[Ip]
  rw[pb] at hy
  omega
 | n+1,k,hn,hx=>by
  rw[yt,iV]
  rw[decide_eq_true (by omega),cond_true,co (by omega)]
  rw[wB Y 1 (k+1) (by omega) (by omega) (by omega) (by omega) (by omega)]
  simp only[Option.bind_some]
  have e:y0 Y+m0 Y (k+1)+1 - 1=y0 Y+m0 Y (k+1):=by omega
  rw[e]
  by_cases h:y0 Y+m0 Y (k+1)≤day
  ·rw[decide_eq_true h]
   exact yz day Y hd hd2 hY hY2 hy n (k+1) (by omega) h
  ·rw[decide_eq_false h]
   exact⟨k,rfl,by omega,hx,by omega⟩
theorem LS (day:Int)(hd:0≤day)(hd2:day≤36524):∃(Y:Int) (M:Nat),qO day=some ⟨Y,((M+1:Nat):Int),day - y0 Y - m0 Y M+1⟩∧2000≤Y∧Y≤2099∧y0 Y≤day∧day<y0 (Y+1)∧M≤11∧m0 Y M≤day - y0 Y∧day - y0 Y<m0 Y (M+1):=by
 obtain⟨Y,h1,h2,h3,h4,h5⟩:=CJ day hd hd2 99 2000 (by omega) (by omega) (by rw[Cd];exact hd)
 obtain⟨M,g1,g2,g3,g4⟩:=yz day Y hd hd2 h2 h3 h5 11 0 (by omega) (by simp only[m0];omega)
 refine⟨Y,M,?_,h2,h3,h4,h5,g2,by omega,by omega⟩
 have hk:=tM Y M
 have hb:0≤y0 Y∧y0 Y≤40000:=by unfold y0;omega
 unfold qO
 rw[h1]
 simp only[cF]
 rw[show (1:Int)=((0+1:Nat):Int) by rfl,g1]
 simp only[cF]
 rw[wB Y _ M h2 (by omega) (by omega) (by omega) (by omega)]
 simp only[Option.bind_some]
 have e:an (an (day - (y0 Y+m0 Y M+((0+1:Nat):Int) - 1))+((0+1:Nat):Int))=day - y0 Y - m0 Y M+1:=by
  rw[show an (day - (y0 Y+m0 Y M+((0+1:Nat):Int) - 1))=day - y0 Y - m0 Y M from by rw[cV (by omega) (by omega)];omega,cV (by omega) (by omega)]
  rfl
 rw[e]
 rfl
theorem Ie (day:Int)(hd:0≤day)(hd2:day≤36524):∃(Y:Int) (M:Nat) (D:Int),qO day=some ⟨Y,((M+1:Nat):Int),D⟩∧kK day Y M D:=by
 obtain⟨Y,M,h1,h2,h3,h4,h5,h6,h7,h8⟩:=LS day hd hd2
 have he:m0 Y (M+1)=m0 Y M+ir Y ((M+1:Nat):Int):=rfl
 exact⟨Y,M,_,h1,h2,h3,h6,by omega,by omega,by omega⟩
theorem TF (day:Int)(hd:0≤day)(hd2:day≤36524):∃(Y:Int) (M:Nat) (D:Int),qO day=some ⟨Y,((M+1:Nat):Int),D⟩∧CU day=some ⟨Y,((M+1:Nat):Int),D⟩∧2000≤Y∧Y≤2099∧M≤11∧1≤D∧D≤ir Y ((M+1:Nat):Int)∧day=y0 Y+m0 Y M+D - 1:=by
 obtain⟨Y,M,D,h1,h2⟩:=Ie day hd hd2
 obtain⟨Y',M',D',h1',h2'⟩:=IM day hd hd2
 obtain⟨rfl,rfl,rfl⟩:=h2.uniq h2'
 exact⟨Y,M,D,h1,h1',h2⟩
theorem cQ {a b:ac}(h:a.length+b.length≤9223372036854775807):aC a b=some (a++b):=by unfold aC;rw[if_pos h]
theorem GU (n:Nat)(h:n<10000000000000000000):Lib.nDigits n≤20:=by
 have:=Lib.nDigits_le20 n (by omega)
 exact this
theorem lO (n:Nat)(h:n<10000000000000000000):(Lib.decDigits n).length≤20:=by
 rw[Lib.decDigits_length]
 exact GU n h
theorem Rx (n:Nat):((n:Int).tdiv 10)=((n / 10:Nat):Int):=by rw[Int.tdiv_eq_ediv_of_nonneg (by omega)];omega
theorem SE (n:Nat):((n:Int).tmod 10)=((n % 10:Nat):Int):=by rw[Int.tmod_eq_emod_of_nonneg (by omega)];omega
theorem qY (n:Nat)(h:n<1000000000000000000):mJ (n:Int)=some (Lib.decDigits n):=by
 unfold mJ
 rw[show EY (n:Int)=true by simp only[EY,Bool.and_eq_true,decide_eq_true_eq];omega,cond_true,Lib.itoa_nonneg]
def pw (n:Nat):ac:=if n<10 then 48::Lib.decDigits n else Lib.decDigits n
theorem Bt (n:Nat)(h:n<1000000000000000000):(pw n).length≤21:=by
 have:=lO n (by omega)
 unfold pw
 split
 ·simp only[List.length_cons];omega
 ·omega
theorem Qi:∀i:_root_.Fin 10,kd ([48,49,50,51,52,53,54,55,56,57]:ac) (i.val:Int) ((i.val+1:Nat):Int)=some [UInt8.ofNat (48+i.val)]:=by decide
theorem HH (i:Nat)(h:i<10):kd ([48,49,50,51,52,53,54,55,56,57]:ac) (i:Int) ((i+1:Nat):Int)=some [UInt8.ofNat (48+i)]:=Qi ⟨i,h⟩
theorem pj (n:Nat)(h:n<1000000000000000000):qy (n:Int)=some (Lib.decDigits n):=by
 induction n using Nat.strongRecOn with
 | _ n ih=>
  rw[PT]
  unfold qg
  rw[decide_eq_false (by omega),cond_false]
  by_cases h1:n<10
  ·rw[decide_eq_true (by omega),cond_true,co (by omega),HH n h1,Option.bind_some,Lib.decDigits,dif_pos h1]
  ·rw[decide_eq_false (by omega),cond_false,Rx,SE,cV (by omega) (by omega),co (by omega)]
   have e:=ih (n / 10) (by omega) (by omega)
   have e':ay nI ((n / 10:Nat):Int)=some (Lib.decDigits (n / 10)):=e
   rw[e',Option.bind_some,HH (n % 10) (by omega),Option.bind_some,cQ (by have:=lO (n / 10) (by omega);simp only[List.length_singleton];omega),Option.bind_some]
   conv=>rhs;rw[Lib.decDigits,dif_neg h1]
theorem Et (n:Nat)(h:n<1000000000000000000):rF (n:Int)=some (pw n):=by
 unfold rF pw
 rw[pj n h]
 have:=lO n (by omega)
 by_cases h1:n<10
 ·rw[decide_eq_true (by omega),cond_true,if_pos h1,Option.bind_some,cQ (by simp only[List.length_singleton];omega)]
  rfl
 ·rw[decide_eq_false (by omega),cond_false,if_neg h1]
  rfl
theorem wV (n d:Int)(s:ac)(h:d≤(s.length:Int)):sB n d s=some (.inr s):=by
 rw[CN,jS]
 rw[decide_eq_false (by simp only[len];omega),cond_false]
theorem wA (n:Nat)(h:n<100):rn (n:Int) 2=some (pw n):=by
 unfold rn pw
 rw[qY n (by omega),Option.bind_some]
 by_cases h1:n<10
 ·have hl:(Lib.decDigits n).length=1:=by rw[Lib.decDigits_length,Lib.nDigits_small h1]
  rw[CN,jS]
  rw[decide_eq_true (by simp only[len];omega),cond_true,cQ (by simp only[List.length_singleton];omega),Option.bind_some,wV _ _ _ (by simp only[List.singleton_append,List.length_cons];omega),if_pos h1]
  rfl
 ·have hl:(Lib.decDigits n).length=2:=by rw[Lib.decDigits_length];exact Lib.nDigits_unique 1 n (by omega) (by omega)
  rw[wV _ _ _ (by omega),if_neg h1]
  rfl
theorem JR (n:Nat)(h:1000≤n)(h2:n<10000):rn (n:Int) 4=some (Lib.decDigits n):=by
 unfold rn
 rw[qY n (by omega),Option.bind_some]
 have hl:(Lib.decDigits n).length=4:=by rw[Lib.decDigits_length];exact Lib.nDigits_unique 3 n (by omega) (by omega)
 rw[wV _ _ _ (by omega)]
 rfl
theorem K1 (day:Int)(hd:0≤day)(hd2:day≤36524):∃t:ac,wo day=some t∧Ff day=some t∧t.length≤100:=by
 obtain⟨Y,M,D,h1,h2,h3,h4,h5,h6,h7,h8⟩:=TF day hd hd2
 have hm:=pq Y ((M+1:Nat):Int)
 obtain⟨y,rfl⟩:∃y:Nat,Y=y:=⟨Y.toNat,by omega⟩
 obtain⟨d,rfl⟩:∃d:Nat,D=d:=⟨D.toNat,by omega⟩
 have l1:=lO y (by omega)
 have l2:=Bt (M+1) (by omega)
 have l3:=Bt d (by omega)
 refine⟨Lib.decDigits y++[45]++pw (M+1)++[45]++pw d,?_,?_,by simp only[List.length_append,List.length_singleton];omega⟩
 ·unfold wo
  rw[h1,Option.bind_some]
  simp only
  rw[pj y (by omega),Et (M+1) (by omega),Et d (by omega)]
  simp only[Option.bind_some]
  rw[cQ (by simp only[List.length_singleton];omega),Option.bind_some,cQ (by simp only[List.length_append,List.length_singleton];omega),Option.bind_some,cQ (by simp only[List.length_append,List.length_singleton];omega),Option.bind_some,cQ (by simp only[List.length_append,List.length_singleton];omega)]
  rfl
 ·unfold Ff
  rw[h2,Option.bind_some]
  simp only
  rw[JR y (by omega) (by omega),wA (M+1) (by omega),wA d (by omega)]
  simp only[Option.bind_some]
  rw[cQ (by simp only[List.length_singleton];omega),Option.bind_some,cQ (by simp only[List.length_append,List.length_singleton];omega),Option.bind_some,cQ (by simp only[List.length_append,List.length_singleton];omega),Option.bind_some,cQ (by simp only[List.length_append,List.length_singleton];omega)]
  rfl
theorem G9 (x:Int)(h:0≤x)(h2:x≤100000000):∃t:ac,xD x=some t∧Fi x=some t∧t.length≤100:=by
 obtain⟨n,rfl⟩:∃n:Nat,x=n:=⟨x.toNat,by omega⟩
 have e1:((n:Int).tdiv 100)=((n / 100:Nat):Int):=by rw[Int.tdiv_eq_ediv_of_nonneg (by omega)];omega
 have e2:((n:Int).tmod 100)=((n % 100:Nat):Int):=by rw[Int.tmod_eq_emod_of_nonneg (by omega)];omega
 have e3:an (0 - (n:Int))=-(n:Int):=by rw[cV (by omega) (by omega)];omega
 have l1:=lO (n / 100) (by omega)
 have l2:=Bt (n % 100) (by omega)
 have l3:=lO (n % 100) (by omega)
 refine⟨Lib.decDigits (n / 100)++[46]++pw (n % 100),?_,?_,by simp only[List.length_append,List.length_singleton];omega⟩
 ·unfold xD
  rw[decide_eq_false (by omega),cond_false,eY]
  simp only[e1,e2]
  rw[cV (by omega) (by omega),pj (n / 100) (by omega),pj (n % 100) (by omega)]
  simp only[Option.bind_some]
  rw[cQ (by simp only[List.length_nil];omega),Option.bind_some,cQ (by simp only[List.length_append,List.length_nil,List.length_singleton];omega),Option.bind_some]
  unfold pw
  by_cases h1:n % 100<10
  ·rw[decide_eq_true (by omega),cond_true,cQ (by simp only[List.length_append,List.length_nil,List.length_singleton];omega),Option.bind_some,cF,cQ (by simp only[List.length_append,List.length_nil,List.length_singleton];omega),if_pos h1]
   simp
  ·rw[decide_eq_false (by omega),cond_false,cF,cQ (by simp only[List.length_append,List.length_nil,List.length_singleton];omega),if_neg h1]
   simp
 ·unfold Fi iG
  rw[decide_eq_false (by omega),cond_false,eY]
  simp only[e3,Option.bind_some]
  have e4:(if -(n:Int)>n then -(n:Int) else n)=n:=by split<;>omega
  rw[e4]
  simp only[e1,e2]
  rw[cV (by omega) (by omega),qY (n / 100) (by omega),wA (n % 100) (by omega)]
  simp only[Option.bind_some]
  rw[cQ (by simp only[List.length_nil];omega),Option.bind_some,cQ (by simp only[List.length_append,List.length_nil,List.length_singleton];omega),Option.bind_some,cQ (by simp only[List.length_append,List.length_nil,List.length_singleton];omega)]
  simp
theorem KR (c:Condition):dN c=true→bb c→∃t:ac,FB c=some t∧MG c=some t∧t.length≤2000000*aR c:=by
 refine dX (P:=fun c=>dN c=true→bb c→∃t:ac,FB c=some t∧MG c=some t∧t.length≤2000000*aR c) ?_ c
 intro c ih hf hs
 have hnc:=dW c
 have hsm:=(d6 _).1 hs
 have hnl:c.Name.length≤1048576:=hsm.2.1
 have hnb:=Pm hs
 rw[oo,Bool.and_eq_true,List.all_eq_true] at hf
 obtain⟨hf1,hf2⟩:=hf
 rw[P5,Rp]
 unfold pL ul
 rcases N1 hf1 with⟨h,hp⟩ | ⟨h,hp⟩ | ⟨h,hp⟩ | ⟨h,p,hp⟩ | ⟨h,p,q,hp⟩ | ⟨h,p,q,hp⟩
 ·rw[h]
  exact⟨_,rfl,rfl,by simp only[List.length_cons,List.length_nil];omega⟩
 ·rw[h]
  exact⟨_,rfl,rfl,by omega⟩
 ·have hd:0≤c.Day∧c.Day≤36524:=by
   unfold lS at hf1
   rw[h] at hf1
   rw[if_neg (by decide),if_neg (by decide),if_pos rfl] at hf1
   simp only[Bool.and_eq_true,kn] at hf1
   exact hf1.2.2
  obtain⟨t,t1,t2,t3⟩:=K1 c.Day hd.1 hd.2
  have c1:aC ([102,114,111,109,32]:ac) t=some ([102,114,111,109,32]++t):=cQ (by simp only[List.length_cons,List.length_nil];omega)
  rw[h]
  refine⟨[102,114,111,109,32]++t,?_,?_,by simp only[List.length_append,List.length_cons,List.length_nil];omega⟩
  ·rw[t1,Option.bind_some,c1];rfl
  ·rw[t2,Option.bind_some,c1];rfl
 ·have hpm:p∈c.Parts:=by rw[hp];simp
  obtain⟨t,t1,t2,t3⟩:=ih p hpm (hf2 p hpm) (hsm.2.2.2.1.2 p hpm)
  rw[hp] at hnc
  simp only[az] at hnc
  have c1:aC ([110,111,116,32]:ac) t=some ([110,111,116,32]++t):=cQ (by simp only[List.length_cons,List.length_nil];omega)
  rw[h,hp]
  refine⟨[110,111,116,32]++t,?_,?_,by simp only[List.length_append,List.length_cons,List.length_nil];omega⟩
  ·show ((ay fp p).bind _)=_
   rw[show ay fp p=_ from t1,Option.bind_some,c1];rfl
  ·show ((ay gp p).bind _)=_
   rw[show ay gp p=_ from t2,Option.bind_some,c1];rfl
 ·have hpm:p∈c.Parts:=by rw[hp];simp
  have hqm:q∈c.Parts:=by rw[hp];simp
  obtain⟨t,t1,t2,t3⟩:=ih p hpm (hf2 p hpm) (hsm.2.2.2.1.2 p hpm)
  obtain⟨u,u1,u2,u3⟩:=ih q hqm (hf2 q hqm) (hsm.2.2.2.1.2 q hqm)
  rw[hp] at hnc
  simp only[az] at hnc
  have c1:aC ([40]:ac) t=some ([40]++t):=cQ (by simp only[List.length_cons,List.length_nil];omega)
  have c2:aC ([40]++t) ([32,97,110,100,32]:ac)=some ([40]++t++[32,97,110,100,32]):=cQ (by simp only[List.length_append,List.length_cons,List.length_nil];omega)
  have c3:aC ([40]++t++[32,97,110,100,32]) u=some ([40]++t++[32,97,110,100,32]++u):=cQ (by simp only[List.length_append,List.length_cons,List.length_nil];omega)
  have c4:aC ([40]++t++[32,97,110,100,32]++u) ([41]:ac)=some ([40]++t++[32,97,110,100,32]++u++[41]):=cQ (by simp only[List.length_append,List.length_cons,List.length_nil];omega)
  rw[h,hp]
  refine⟨[40]++t++[32,97,110,100,32]++u++[41],?_,?_,by simp only[List.length_append,List.length_cons,List.length_nil];omega⟩
  ·show ((ay fp p).bind fun r8=>(aC ([40]:ac) r8).bind fun s9=>(aC s9 ([32,97,110,100,32]:ac)).bind fun s10=>(ay fp q).bind fun r12=>(aC s10 r12).bind fun s13=>(aC s13 ([41]:ac)).bind fun s14=>some s14)=_
   simp only[show ay fp p=_ from t1,show ay fp q=_ from u1,Option.bind_some,c1,c2,c3,c4]
  ·show ((ay gp p).bind fun r8=>(aC ([40]:ac) r8).bind fun s9=>(aC s9 ([32,97,110,100,32]:ac)).bind fun s10=>(ay gp q).bind fun r12=>(aC s10 r12).bind fun s13=>(aC s13 ([41]:ac)).bind fun s14=>some s14)=_
   simp only[show ay gp p=_ from t2,show ay gp q=_ from u2,Option.bind_some,c1,c2,c3,c4]
 ·have hpm:p∈c.Parts:=by rw[hp];simp
  have hqm:q∈c.Parts:=by rw[hp];simp
  obtain⟨t,t1,t2,t3⟩:=ih p hpm (hf2 p hpm) (hsm.2.2.2.1.2 p hpm)
  obtain⟨u,u1,u2,u3⟩:=ih q hqm (hf2 q hqm) (hsm.2.2.2.1.2 q hqm)
  rw[hp] at hnc
  simp only[az] at hnc
  have c1:aC ([40]:ac) t=some ([40]++t):=cQ (by simp only[List.length_cons,List.length_nil];omega)
  have c2:aC ([40]++t) ([32,111,114,32]:ac)=some ([40]++t++[32,111,114,32]):=cQ (by simp only[List.length_append,List.length_cons,List.length_nil];omega)
  have c3:aC ([40]++t++[32,111,114,32]) u=some ([40]++t++[32,111,114,32]++u):=cQ (by simp only[List.length_append,List.length_cons,List.length_nil];omega)
  have c4:aC ([40]++t++[32,111,114,32]++u) ([41]:ac)=some ([40]++t++[32,111,114,32]++u++[41]):=cQ (by simp only[List.length_append,List.length_cons,List.length_nil];omega)
  rw[h,hp]
  refine⟨[40]++t++[32,111,114,32]++u++[41],?_,?_,by simp only[List.length_append,List.length_cons,List.length_nil];omega⟩
  ·show ((ay fp p).bind fun r8=>(aC ([40]:ac) r8).bind fun s9=>(aC s9 ([32,111,114,32]:ac)).bind fun s10=>(ay fp q).bind fun r12=>(aC s10 r12).bind fun s13=>(aC s13 ([41]:ac)).bind fun s14=>some s14)=_
   simp only[show ay fp p=_ from t1,show ay fp q=_ from u1,Option.bind_some,c1,c2,c3,c4]
  ·show ((ay gp p).bind fun r8=>(aC ([40]:ac) r8).bind fun s9=>(aC s9 ([32,111,114,32]:ac)).bind fun s10=>(ay gp q).bind fun r12=>(aC s10 r12).bind fun s13=>(aC s13 ([41]:ac)).bind fun s14=>some s14)=_
   simp only[show ay gp p=_ from t2,show ay gp q=_ from u2,Option.bind_some,c1,c2,c3,c4]
theorem zf {a b:ac}(h:a.length≤1000000000)(h2:b.length≤1000000000):aC a b=some (a++b):=cQ (by omega)
theorem GN (c : Contract)(i : Int)(e : Clause)(he : aP c.Clauses i=some e)(hc : ed c)(hv : fw c i e=true) : ∃ t : ac,xz c i=some t ∧ E9 c e=some t ∧ t.length ≤ 100000000:=by
  have hem : e ∈ c.Clauses:=by
    unfold aP at he
    split at he
    · exact List.mem_of_getElem? he
    · cases he
  have hse:=hc.2.2 e hem
  have hcond : kU e.When=true:=sC hv
  simp only [kU,Bool.and_eq_true,decide_eq_true_eq] at hcond
  have hsw:=hse.2.2.2.2.2.2.1
  obtain ⟨w,w1,w2,w3⟩:=KR e.When hcond.1 hsw
  have hw : w.length ≤ 40000000:=by omega
  simp only [fw,Bool.and_eq_true,kn] at hv
  obtain ⟨_,_,k1,k2,k3,_,_,k4,k5,_⟩:=hv
  have hpl : c.Parties.length ≤ 1048576:=hc.1.1
  rw [cV (by simp only [len]; omega) (by simp only [len]; omega)] at k2 k3
  obtain ⟨m,m1,m2,m3⟩:=G9 e.Amount k4.1 (by omega)
  obtain ⟨n,hn⟩ : ∃ n : Nat,e.Within=n:=⟨e.Within.toNat,by omega⟩
  have n1:=pj n (by omega)
  have n2 : FA (n : Int)=some (Lib.decDigits n):=by unfold FA; rw [qY n (by omega)]; rfl
  have n3:=lO n (by omega)
  obtain ⟨j,hj⟩ : ∃ j : Nat,e.Party=j:=⟨e.Party.toNat,by omega⟩
  obtain ⟨l,hl⟩ : ∃ l : Nat,e.Other=l:=⟨e.Other.toNat,by omega⟩
  have hjl : j < c.Parties.length:=by simp only [len] at k2; omega
  have hll : l < c.Parties.length:=by simp only [len] at k3; omega
  have g1 : aP c.Parties e.Party=some c.Parties[j]:=by rw [hj,cg,List.getElem?_eq_getElem hjl]
  have g2 : aP c.Parties e.Other=some c.Parties[l]:=by rw [hl,cg,List.getElem?_eq_getElem hll]
  have b1 : c.Parties[j].length ≤ 1048576:=hc.1.2 _ (List.getElem_mem hjl)
  have b2 : c.Parties[l].length ≤ 1048576:=hc.1.2 _ (List.getElem_mem hll)
  have b3 : e.Id.length ≤ 1048576:=hse.1
  have b4 : e.Action.length ≤ 1048576:=hse.2.2.2.1
  have b5 : e.Repair.length ≤ 1048576:=hse.2.2.2.2.2.2.2.2
  generalize c.Parties[j]=P at *
  generalize c.Parties[l]=O at *
  generalize Lib.decDigits n=W at *
  unfold xz E9
  rw [he,Option.bind_some]
  simp (disch:=first | omega | (simp only [List.length_append,List.length_cons,List.length_nil]; omega)) only [g1,g2,w1,w2,m1,m2,hn,n1,n2,Option.bind_some,zf]
  have hk : e.Kind=1 ∨ e.Kind=2 ∨ e.Kind=3 ∨ e.Kind=4:=by omega
  have q4 : ∀ k : Int,e.Kind=k→∀ j : Int,(e.Kind == j)=decide (k=j):=fun k hk j=>by
    rw [hk]
    by_cases h : k=j
    · rw [decide_eq_true h,h,beq_self_eq_true]
    · rw [decide_eq_false h,beq_eq_false_iff_ne.2 h]
  have fin : ∀ {x y : ac},x=y→x.length ≤ 100000000→∃ t : ac,(some x=some t ∧ some y=some t ∧ t.length ≤ 100000000):=fun h hx=>⟨_,rfl,by rw [h],hx⟩
  rcases hk with hk | hk | hk | hk
  · have q1 : (e.Kind == 1)=true:=q4 1 hk 1
    have q5 : (e.Kind == 4)=false:=q4 1 hk 4
    cases hA : decide (e.Amount > 0) <;> cases hR : e.Repair == ([] : ac) <;>
      (simp (disch:=first | omega | (simp only [List.length_append,List.length_cons,List.length_nil]; omega)) only [q1,q5,cond_true,cond_false,f7,cF,Option.bind_some,zf,List.append_assoc,List.cons_append,List.nil_append]
       refine fin rfl ?_
       simp only [List.length_append,List.length_cons,List.length_nil]
       omega)
  · have q1 : (e.Kind == 1)=false:=q4 2 hk 1
    have q2 : (e.Kind == 2)=true:=q4 2 hk 2
    have q5 : (e.Kind == 4)=false:=q4 2 hk 4
    cases hR : e.Repair == ([] : ac) <;>
      (simp (disch:=first | omega | (simp only [List.length_append,List.length_cons,List.length_nil]; omega)) only [q1,q2,q5,cond_true,cond_false,f7,cF,Option.bind_some,zf,List.append_assoc,List.cons_append,List.nil_append]
       refine fin rfl ?_
       simp only [List.length_append,List.length_cons,List.length_nil]
       omega)
  · have q1 : (e.Kind == 1)=false:=q4 3 hk 1
    have q2 : (e.Kind == 2)=false:=q4 3 hk 2
    have q3 : (e.Kind == 3)=true:=q4 3 hk 3
    have q5 : (e.Kind == 4)=false:=q4 3 hk 4
    cases hR : e.Repair == ([] : ac) <;>
      (simp (disch:=first | omega | (simp only [List.length_append,List.length_cons,List.length_nil]; omega)) only [q1,q2,q3,q5,cond_true,cond_false,f7,cF,Option.bind_some,zf,List.append_assoc,List.cons_append,List.nil_append]
       refine fin rfl ?_
       simp only [List.length_append,List.length_cons,List.length_nil]
       omega)
  · have q1 : (e.Kind == 1)=false:=q4 4 hk 1
    have q2 : (e.Kind == 2)=false:=q4 4 hk 2
    have q3 : (e.Kind == 3)=false:=q4 4 hk 3
    have q5 : (e.Kind == 4)=true:=q4 4 hk 4
    cases hR : e.Repair == ([] : ac) <;>
      (simp (disch:=first | omega | (simp only [List.length_append,List.length_cons,List.length_nil]; omega)) only [q1,q2,q3,q5,cond_true,cond_false,f7,cF,Option.bind_some,zf,List.append_assoc,List.cons_append,List.nil_append]
       refine fin rfl ?_
       simp only [List.length_append,List.length_cons,List.length_nil]
       omega)
theorem H2 (c:Contract)(i:Int)(hc:ed c):∃r,wY c i=some r∧Fu c i=some r:=by
 unfold wY Fu
 rw[Dg c hc,Dh c hc,Option.bind_some,Option.bind_some]
 cases h:ny c with
 | false=>exact⟨_,rfl,rfl⟩
 | true=>
  simp only[Bool.not_true,cond_false]
  simp only[pB,mX,Option.bind_some,Sf _ _ hc.2.1,cF]
  cases he:aP c.Clauses i with
  | none=>exact⟨_,rfl,rfl⟩
  | some e=>
   simp only[Option.isSome_some,Bool.not_true,cond_false,cF,Option.bind_some]
   have hv:fw c i e=true:=by
    have he':=he
    unfold aP at he'
    split at he'
    ·rename_i h0
     have:=((Fb h).2.2.2 _ e he').2
     rwa[show ((i.toNat:Nat):Int)=i by omega] at this
    ·cases he'
   obtain⟨t,t1,t2,t3⟩:=GN c i e he hc hv
   rw[t1,t2]
   exact⟨_,rfl,rfl⟩
theorem nR (c:Contract)(hc:NG c)(i:Int)(hi:rm i):cZ c i=some true:=by
 unfold cZ
 obtain⟨r1,e1,q1⟩:=G2 c hc (l:=1048576) (by decide) (by decide)
 rw[e1,Option.bind_some]
 rcases q1 with q1 | ⟨q1,p1,s1⟩
 ·rw[decide_eq_true q1,cond_true]
 rw[decide_eq_false (by omega),cond_false]
 obtain⟨r,g1,g2⟩:=H2 c i s1
 simp only[GG c s1,Option.bind_some,g1,g2,GY c s1,beq_self_eq_true,bne_self_eq_false,Bool.not_true,eY,cond_false]
end Go.Ln
