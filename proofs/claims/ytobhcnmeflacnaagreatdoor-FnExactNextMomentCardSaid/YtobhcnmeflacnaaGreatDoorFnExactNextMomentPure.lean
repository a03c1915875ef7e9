/-
  The plain law.
-/
import Derived.Test.YtobhcnmeflacnaaGreatDoorFnExactNextMomentLib
import Derived.Sort.AssemblyPlain
import Derived.Sort.LotD4
import Derived.Sort.LotD5
set_option linter.unusedVariables false
set_option linter.unusedSimpArgs false
set_option maxRecDepth 100000
namespace Go.Ln
open Go
theorem nW {α:Type}{b:Nat}{xs:List α}{y:α}(h:(xs.length+1)*b≤1099511627776)(h2:xs.length+1≤1099511627776):ge b xs [y]=some (xs++[y]):=by
 unfold ge
 rw[if_pos]
 simp only[List.length_cons,List.length_nil,lq,Nat.zero_add]
 omega
namespace StrL
theorem lt_irrefl:∀(a:ac),Op.bytesLess a a=false
 | []=>rfl
 | x::xs=>by
  have h:¬x<x:=by simp
  simp[Op.bytesLess,h,lt_irrefl xs]
theorem lt_trans:∀(a b c:ac),Op.bytesLess a b=true→Op.bytesLess b c=true→Op.bytesLess a c=true
 | _,[],_,h,_=>by simp[Op.bytesLess] at h
 | _,_::_,[],_,h=>by simp[Op.bytesLess] at h
 | [],_::_,_::_,_,_=>rfl
 | x::xs,y::ys,z::zs,h1,h2=>by
  simp only[Op.bytesLess,Bool.or_eq_true,decide_eq_true_eq,Bool.and_eq_true,beq_iff_eq] at h1 h2 ⊢
  rcases h1 with h1 | ⟨h1,h3⟩<;>rcases h2 with h2 | ⟨h2,h4⟩
  ·exact .inl (UInt8.lt_trans h1 h2)
  ·subst h2;exact .inl h1
  ·subst h1;exact .inl h2
  ·subst h1;subst h2;exact .inr ⟨rfl,lt_trans xs ys zs h3 h4⟩
def Lt (a b:ac):Prop:=Op.bytesLess a b=true
theorem tri (a b:ac):Lt a b∨a=b∨Lt b a:=by
 have:=J4 a b
 unfold Lt
 cases h:Op.bytesLess a b
 ·cases h2:a==b
  ·rw[h,h2] at this;exact .inr (.inr this.symm)
  ·exact .inr (.inl (by simpa using h2))
 ·exact .inl rfl
theorem Lt.irrefl {a:ac}(h:Lt a a):False:=by unfold Lt at h;rw[lt_irrefl] at h;cases h
theorem Lt.trans {a b c:ac}(h:Lt a b)(h2:Lt b c):Lt a c:=lt_trans a b c h h2
theorem Lt.asymm {a b:ac}(h:Lt a b)(h2:Lt b a):False:=(h.trans h2).irrefl
def Le (a b:ac):Prop:=¬Lt b a
theorem Le.lt_or {a b:ac}(h:Le a b):Lt a b∨a=b:=by
 rcases tri a b with h1 | h1 | h1
 ·exact .inl h1
 ·exact .inr h1
 ·exact (h h1).elim
theorem Le.trans {a b c:ac}(h:Le a b)(h2:Le b c):Le a c:=by
 intro h3
 rcases h.lt_or with h4 | rfl
 ·rcases h2.lt_or with h5 | rfl
  ·exact (h4.trans h5).asymm h3
  ·exact h h3
 ·exact h2 h3
theorem Lt.le {a b:ac}(h:Lt a b):Le a b:=fun h2=>h.asymm h2
theorem Lt.ne {a b:ac}(h:Lt a b):a≠b:=fun e=>by subst e;exact h.irrefl
theorem Le.le_lt {a b c:ac}(h:Le a b)(h2:Lt b c):Lt a c:=by
 rcases h.lt_or with h3 | rfl
 ·exact h3.trans h2
 ·exact h2
end StrL
namespace StrL
def fQ (a:List ac)(j:Nat):Bool:=match j with
 | 0=>true
 | j+1=>match a[j]?,a[j+1]? with
  | some x,some y=>y != x
  | _,_=>true
def dd (a:List ac):List ac:=kD (fQ a) a a.length
theorem FV {a:List ac}{k:Nat}(h:∀j x y,j+1<k→a[j]?=some x→a[j+1]?=some y→y≠x)(hn:k≤a.length):kD (fQ a) a k=a.take k:=by
 have e:∀n,n≤k→kD (fQ a) a n=a.take n:=by
  intro n
  induction n with
  | zero=>intro _;rfl
  | succ n ih=>
   intro hk
   have h1:n<a.length:=by omega
   have hx:=List.getElem?_eq_getElem h1
   rw[AQ ?_ hx,ih (by omega),List.take_add_one,hx]
   ·rfl
   ·cases n with
    | zero=>rfl
    | succ n=>
     have h2:=List.getElem?_eq_getElem (show n<a.length by omega)
     simp only[fQ,h2,hx]
     simpa using h n _ _ (by omega) h2 hx
 exact e k (Nat.le_refl k)
theorem Mb {s z:List ac}{x j:Nat}(h1:x≤j)(h2:j<s.length):ui z (0+Int.toNat (x:Int)) (Int.toNat (len s) - Int.toNat (x:Int)) ((j:Int) - (x:Int))=z[j]?:=by
 unfold ui
 simp only[len,Int.toNat_natCast,Nat.zero_add]
 rw[if_pos (by omega),show x+((j:Int) - (x:Int)).toNat=j by omega]
theorem JH (s:List ac)(x:Nat)(hl:s.length≤1048576)(hx:x<s.length)(h0:kD (fQ s) s (x+1)=s.take x):∃(i:Nat) (z:List ac),jD s (x:Int) ((x:Int),1,s)=some (.inr ((i:Int),z))∧z.length=s.length∧i≤z.length∧z.take i=dd s:=by
 have hD:=Wt (L:=fun q:Int×Int×List ac=>jD s (x:Int) (q.1,q.2.1 - (x:Int),q.2.2)) (keep:=fQ s) (a:=s) (i0:=x)
  (by
   intro i j z y hz hi hij hy hy2 hy3
   obtain⟨h1,_⟩:=List.getElem?_eq_some_iff.1 hy
   have h2:=List.getElem?_eq_getElem (show j - 1<s.length by omega)
   have h4:=List.getElem?_eq_getElem (show i<z.length by omega)
   show jD s (x:Int) ((i:Int),(j:Int) - (x:Int),z)=bif fQ s j then jD s (x:Int) (((i+1:Nat):Int),((j+1:Nat):Int) - (x:Int),z.set i y) else jD s (x:Int) ((i:Int),((j+1:Nat):Int) - (x:Int),z)
   have w1:au ((j:Int) - (x:Int) - 1)=((j - 1:Nat):Int) - (x:Int):=by rw[jC (by omega) (by omega)];omega
   have w2:au ((j:Int) - (x:Int)+1)=((j+1:Nat):Int) - (x:Int):=by rw[jC (by omega) (by omega)];omega
   have c1:decide ((j:Int) - (x:Int)<(((Int.toNat (len s) - Int.toNat (x:Int)):Nat):Int))=true:=decide_eq_true (by simp only[len,Int.toNat_natCast];omega)
   rw[Cl,kb]
   simp only[c1,cond_true,w1,w2,Mb (show x≤j by omega) h1,Mb (show x≤j - 1 by omega) (show j - 1<s.length by omega),hy2,hy3,h2,Option.bind_some,bD,Kr,h4,ca (show i<9223372036854775807 by omega)]
   have hk:fQ s j=(y != s[j - 1]):=by
    cases j with
    | zero=>omega
    | succ j=>
     simp only[fQ,hy,show j+1 - 1=j by omega] at h2 ⊢
     simp only[h2]
   rw[hk]
   show _=bif !(y==s[j - 1]) then _ else _
   cases y==s[j - 1]<;>rfl)
  (by
   intro i j z hz hi hij hj
   show jD s (x:Int) ((i:Int),(j:Int) - (x:Int),z)=_
   have c1:decide ((j:Int) - (x:Int)<(((Int.toNat (len s) - Int.toNat (x:Int)):Nat):Int))=false:=decide_eq_false (by simp only[len,Int.toNat_natCast];omega)
   rw[Cl,kb]
   simp only[c1,cond_false])
  h0 hx
 simp only[show ((x+1:Nat):Int) - (x:Int)=1 by omega] at hD
 exact hD
theorem wb (s:List ac)(hl:s.length≤1048576):∀(n k:Nat),k+n=s.length→1≤k→(∀j x y,j+1<k→s[j]?=some x→s[j+1]?=some y→y≠x)→∃y,pN s (k:Int)=some y∧(y=.inl (dd s)∨y=.inr (dd s))
 | 0,k,hk,h1,h=>by
  refine⟨.inr s,?_,.inr ?_⟩
  ·rw[Ck,ka,bu,decide_eq_false (by omega),cond_false]
  ·unfold dd
   rw[FV (k:=s.length) (fun j x y hj=>h j x y (by omega)) (Nat.le_refl _),List.take_length]
 | n+1,k,hk,h1,h=>by
  have h2:k<s.length:=by omega
  have e1:=List.getElem?_eq_getElem h2
  have e2:=List.getElem?_eq_getElem (show k - 1<s.length by omega)
  have w1:au ((k:Int) - 1)=((k - 1:Nat):Int):=by rw[jC (by omega) (by omega)];omega
  rw[Ck,ka,bu,decide_eq_true h2,cond_true,w1,bD,bD,e1,e2,Option.bind_some,Option.bind_some,ca (by omega)]
  by_cases hq:s[k]=s[k - 1]
  ·rw[beq_iff_eq.2 hq,cond_true]
   have e3:f9 s.length (k:Int) (len s)=some ():=by unfold f9;rw[if_pos (by simp only[len];omega)]
   have hno:fQ s k=false:=by
    cases k with
    | zero=>omega
    | succ k=>
     simp only[show k+1 - 1=k by omega] at e2 hq
     simp only[fQ,e1,e2,hq,bne_self_eq_false]
   obtain⟨i,z,e,hz,hi,ht⟩:=JH s k hl h2 (by rw[F0 hno,FV h (by omega)])
   rw[e3,Option.bind_some,e,eR]
   refine⟨.inl (dd s),?_,.inl rfl⟩
   rw[←ht]
   exact aaq (c:=([]:ac)) (F:=fun p19=>some (Sum.inl p19)) hi
  ·rw[beq_eq_false_iff_ne.2 hq,cond_false]
   refine wb s hl n (k+1) (by omega) (by omega) fun j x y hj hx hy=>?_
   by_cases hj2:j+1<k
   ·exact h j x y hj2 hx hy
   ·obtain rfl:k=j+1:=by omega
    simp only[show j+1 - 1=j by omega] at e2 hq
    rw[e2] at hx
    rw[e1] at hy
    cases hx
    cases hy
    exact hq
theorem compact_val (s:List ac)(hl:s.length≤1048576):zI s=some (dd s):=by
 unfold zI
 by_cases h:len s<2
 ·rw[decide_eq_true h,cond_true]
  have h':s.length<2:=by simp only[len] at h;omega
  unfold dd
  rw[FV (k:=s.length) (fun j x y hj=>by omega) (Nat.le_refl _),List.take_length]
 ·rw[decide_eq_false h,cond_false]
  have h':¬s.length<2:=by simp only[len] at h;omega
  obtain⟨y,hy,hq⟩:=wb s hl (s.length - 1) 1 (by omega) (Nat.le_refl _) (fun j x y hj=>by omega)
  rw[show pN s 1=some y from hy]
  rcases hq with rfl | rfl<;>rfl
end StrL
namespace StrL
theorem GG {a:List ac}(hs:a.Pairwise Le):∀n,n≤a.length→(kD (fQ a) a n).Pairwise Lt∧∀x,x∈kD (fQ a) a n↔x∈a.take n
 | 0,_=>by
  have e:kD (fQ a) a 0=[]:=rfl
  rw[e]
  exact⟨List.Pairwise.nil,fun x=>by simp⟩
 | n+1,hn=>by
  obtain⟨h1,h2⟩:=GG hs n (by omega)
  have hlt:n<a.length:=by omega
  have hx:=List.getElem?_eq_getElem hlt
  have hle:∀y∈a.take n,Le y a[n]:=by
   intro y hy
   obtain⟨i,hi,rfl⟩:=List.mem_iff_getElem.1 hy
   rw[List.length_take] at hi
   rw[List.getElem_take]
   exact List.pairwise_iff_getElem.1 hs i n (by omega) hlt (by omega)
  cases hk:fQ a n with
  | true=>
   rw[AQ hk hx]
   have hstrict:∀y∈a.take n,Lt y a[n]:=by
    intro y hy
    cases n with
    | zero=>simp at hy
    | succ j=>
     have h3:=List.getElem?_eq_getElem (show j<a.length by omega)
     have hne:a[j+1]≠a[j]:=by
      simp only[fQ,h3,hx] at hk
      simpa using hk
     have hj:Le a[j] a[j+1]:=List.pairwise_iff_getElem.1 hs j (j+1) (by omega) hlt (by omega)
     obtain⟨i,hi,rfl⟩:=List.mem_iff_getElem.1 hy
     rw[List.length_take] at hi
     rw[List.getElem_take]
     have hlt2:Lt a[j] a[j+1]:=hj.lt_or.resolve_right fun e=>hne e.symm
     by_cases e:i=j
     ·subst e;exact hlt2
     ·have:=List.pairwise_iff_getElem.1 hs i j (by omega) (by omega) (by omega)
      exact this.le_lt hlt2
   refine⟨List.pairwise_append.2 ⟨h1,List.pairwise_singleton _ _,fun y hy z hz=>?_⟩,fun x=>?_⟩
   ·rw[List.mem_singleton] at hz
    subst hz
    exact hstrict y ((h2 y).1 hy)
   ·rw[List.take_add_one,hx,List.mem_append,List.mem_append,h2]
    rfl
  | false=>
   rw[F0 hk]
   refine⟨h1,fun x=>?_⟩
   rw[h2,List.take_add_one,hx,List.mem_append]
   constructor
   ·exact .inl
   ·rintro (h | h)
    ·exact h
    ·have e:x=a[n]:=by simpa using h
     subst e
     cases n with
     | zero=>simp[fQ] at hk
     | succ j=>
      have h3:=List.getElem?_eq_getElem (show j<a.length by omega)
      simp only[fQ,h3,hx] at hk
      have e:a[j+1]=a[j]:=by simpa using hk
      rw[e]
      have:a[j]∈a.take (j+1):=by
       rw[List.mem_iff_getElem]
       exact⟨j,by rw[List.length_take];omega,by rw[List.getElem_take]⟩
      exact this
theorem dd_ok {a:List ac}(hs:a.Pairwise Le):(dd a).Pairwise Lt∧∀x,x∈dd a↔x∈a:=by
 have:=GG hs a.length (Nat.le_refl _)
 rw[List.take_length] at this
 exact this
theorem asc_uniq:∀{a b:List ac},a.Pairwise Lt→b.Pairwise Lt→(∀x,x∈a↔x∈b)→a=b
 | [],[],_,_,_=>rfl
 | [],y::b,_,_,h=>absurd ((h y).2 (by simp)) (by simp)
 | x::a,[],_,_,h=>absurd ((h x).1 (by simp)) (by simp)
 | x::a,y::b,ha,hb,h=>by
  rw[List.pairwise_cons] at ha hb
  have e:x=y:=by
   have h1:=(h x).1 (by simp)
   have h2:=(h y).2 (by simp)
   rw[List.mem_cons] at h1 h2
   rcases h1 with h1 | h1
   ·exact h1
   ·rcases h2 with h2 | h2
    ·exact h2.symm
    ·exact ((ha.1 y h2).asymm (hb.1 x h1)).elim
  subst e
  rw[asc_uniq ha.2 hb.2 fun z=>?_]
  constructor
  ·intro hz
   have h1:=(h z).1 (List.mem_cons_of_mem _ hz)
   rcases List.mem_cons.1 h1 with e | h1
   ·subst e;exact (ha.1 z hz).irrefl.elim
   ·exact h1
  ·intro hz
   have h1:=(h z).2 (List.mem_cons_of_mem _ hz)
   rcases List.mem_cons.1 h1 with e | h1
   ·subst e;exact (hb.1 z hz).irrefl.elim
   ·exact h1
theorem qi {b:Nat}{xs ys:List ac}(h:(xs.length+ys.length)*b≤1099511627776)(h2:xs.length+ys.length≤1099511627776):ge b xs ys=some (xs++ys):=by
 unfold ge
 rw[if_pos]
 simp only[lq]
 omega
theorem qx (l:List ac)(n:ac)(m:Nat)(hm:m≤l.length)(hl:l.length≤1048576)(h1:∀(j:Nat) x,j<m→l[j]?=some x→Lt x n)(h2:∀x,l[m]?=some x→¬Lt x n):∀(k j:Nat),j+k=m→sx l n (j:Int)=some (.inr (n,(m:Int),l))
 | 0,j,hj=>by
  obtain rfl:j=m:=by omega
  rw[Di,km,bu]
  by_cases h:j<l.length
  ·rw[decide_eq_true h,cond_true,bD,List.getElem?_eq_getElem h,Option.bind_some,eR,show Op.bytesLess l[j] n=false from by simpa[Lt] using h2 _ (List.getElem?_eq_getElem h),cond_false]
  ·rw[decide_eq_false h,cond_false,eR,cond_false]
 | k+1,j,hj=>by
  have h:j<l.length:=by omega
  rw[Di,km,bu,decide_eq_true h,cond_true,bD,List.getElem?_eq_getElem h,Option.bind_some,eR,show Op.bytesLess l[j] n=true from h1 j _ (by omega) (List.getElem?_eq_getElem h),cond_true,ca (by omega)]
  exact qx l n m hm hl h1 h2 k (j+1) (by omega)
theorem put_val (l:List ac)(n:ac)(hl:l.length≤1000000)(hs:l.Pairwise Lt):∃r,vG l n=some r∧r.Pairwise Lt∧(∀x,x∈r↔x∈l∨x=n)∧r.length≤l.length+1:=by
 have key:∃m,m≤l.length∧(∀(j:Nat) x,j<m→l[j]?=some x→Lt x n)∧(∀x,l[m]?=some x→¬Lt x n):=by
  clear hl
  induction l with
  | nil=>exact⟨0,by simp,fun j x hj=>by omega,fun x hx=>by simp at hx⟩
  | cons y l ih=>
   by_cases hy:Lt y n
   ·obtain⟨m,h1,h2,h3⟩:=ih (List.pairwise_cons.1 hs).2
    refine⟨m+1,by simp;omega,fun j x hj hx=>?_,fun x hx=>h3 x (by simpa using hx)⟩
    cases j with
    | zero=>simp at hx;subst hx;exact hy
    | succ j=>exact h2 j x (by omega) (by simpa using hx)
   ·exact⟨0,by simp,fun j x hj=>by omega,fun x hx=>by simp at hx;subst hx;exact hy⟩
 obtain⟨m,hm,h1,h2⟩:=key
 have hlow:∀x∈l.take m,Lt x n:=by
  intro x hx
  obtain⟨i,hi,rfl⟩:=List.mem_iff_getElem.1 hx
  rw[List.length_take] at hi
  rw[List.getElem_take]
  exact h1 i _ (by omega) (List.getElem?_eq_getElem (by omega))
 have hloop:=qx l n m hm (by omega) h1 h2 m 0 (by omega)
 rw[show ((0:Nat):Int)=0 from rfl] at hloop
 unfold vG
 rw[hloop]
 simp only[cM,bu]
 have s1:f9 l.length 0 (m:Int)=some ():=by unfold f9;rw[if_pos (by omega)]
 have s2:f9 l.length (m:Int) (len l)=some ():=by unfold f9;rw[if_pos (by simp only[len];omega)]
 have p1:fK l (0+Int.toNat 0) (Int.toNat (m:Int) - Int.toNat 0)=some (l.take m):=by
  unfold fK
  simp only[Int.toNat_zero,Int.toNat_natCast,Nat.zero_add,Nat.sub_zero,List.drop_zero]
  rw[if_pos hm]
 have p2:fK l (0+Int.toNat (m:Int)) (Int.toNat (len l) - Int.toNat (m:Int))=some (l.drop m):=by
  unfold fK
  simp only[Int.toNat_natCast,Nat.zero_add,len]
  rw[if_pos (by omega),List.take_of_length_le (by rw[List.length_drop];omega)]
 have a1:ge 16 ([]:List ac) (l.take m)=some (l.take m):=by rw[qi (by simp only[List.length_nil,List.length_take];omega) (by simp only[List.length_nil,List.length_take];omega)];rfl
 have a2:ge 16 (l.take m) [n]=some (l.take m++[n]):=nW (by rw[List.length_take];omega) (by rw[List.length_take];omega)
 have a3:ge 16 (l.take m++[n]) (l.drop m)=some (l.take m++[n]++l.drop m):=qi (by simp only[List.length_append,List.length_take,List.length_drop,List.length_singleton];omega) (by simp only[List.length_append,List.length_take,List.length_drop,List.length_singleton];omega)
 have hins:(∀x∈l.drop m,Lt n x)→(l.take m++[n]++l.drop m).Pairwise Lt∧(∀x,x∈l.take m++[n]++l.drop m↔x∈l∨x=n)∧(l.take m++[n]++l.drop m).length≤l.length+1:=by
  intro hhi
  have hs2:=hs
  rw[←List.take_append_drop m l,List.pairwise_append] at hs2
  refine⟨List.pairwise_append.2 ⟨List.pairwise_append.2 ⟨hs2.1,List.pairwise_singleton _ _,fun x hx y hy=>?_⟩,hs2.2.1,fun x hx y hy=>?_⟩,fun x=>?_,?_⟩
  ·rw[List.mem_singleton] at hy;subst hy;exact hlow x hx
  ·rcases List.mem_append.1 hx with hx | hx
   ·exact hs2.2.2 x hx y hy
   ·rw[List.mem_singleton] at hx;subst hx;exact hhi y hy
  ·have:x∈l↔x∈l.take m∨x∈l.drop m:=by
    rw[←List.mem_append,List.take_append_drop]
   rw[List.mem_append,List.mem_append,List.mem_singleton,this]
   constructor
   ·rintro ((h | h) | h)
    ·exact .inl (.inl h)
    ·exact .inr h
    ·exact .inl (.inr h)
   ·rintro ((h | h) | h)
    ·exact .inl (.inl h)
    ·exact .inr h
    ·exact .inl (.inr h)
  ·simp only[List.length_append,List.length_take,List.length_drop,List.length_singleton];omega
 by_cases hb:m<l.length
 ·have hx:=List.getElem?_eq_getElem hb
  have hge:=h2 _ hx
  have hrest:∀x∈l.drop (m+1),Lt l[m] x:=by
   intro x hx
   obtain⟨i,hi,rfl⟩:=List.mem_iff_getElem.1 hx
   rw[List.length_drop] at hi
   rw[List.getElem_drop]
   exact List.pairwise_iff_getElem.1 hs m (m+1+i) hb (by omega) (by omega)
  rw[decide_eq_true hb,cond_true,bD,hx,Option.bind_some,cM,xj]
  by_cases he:l[m]=n
  ·rw[decide_eq_true he,cond_true]
   refine⟨l,rfl,hs,fun x=>⟨.inl,?_⟩,by omega⟩
   rintro (h | h)
   ·exact h
   ·rw[h,←he];exact List.getElem_mem hb
  ·rw[decide_eq_false he,cond_false]
   simp only[s1,p1,a1,a2,s2,p2,a3,Option.bind_some]
   refine⟨_,rfl,hins ?_⟩
   intro x hx
   rw[List.drop_eq_getElem_cons hb] at hx
   rcases List.mem_cons.1 hx with rfl | hx
   ·exact (tri n l[m]).resolve_right fun h=>h.elim (fun e=>he e.symm) hge
   ·have h1:Lt n l[m]:=(tri n l[m]).resolve_right fun h=>h.elim (fun e=>he e.symm) hge
    exact h1.trans (hrest x hx)
 ·rw[decide_eq_false hb,cond_false,cM,cond_false]
  simp only[s1,p1,a1,a2,s2,p2,a3,Option.bind_some]
  refine⟨_,rfl,hins ?_⟩
  intro x hx
  rw[List.drop_of_length_le (by omega)] at hx
  cases hx
end StrL
theorem xm {x y:ac}:decide (x≤y)=true↔StrL.Le x y:=by
 unfold StrL.Le StrL.Lt
 rw[Go.Proofs.bytesLess_eq,decide_eq_true_iff,decide_eq_true_iff]
 exact Iff.rfl
theorem U7 (l:List ac):(l.mergeSort fun x y=>decide (x≤y)).Pairwise StrL.Le:=by
 have h:=List.pairwise_mergeSort (le:=fun x y:ac=>decide (x≤y)) (fun x y z h1 h2=>by
  rw[xm] at *;exact h1.trans h2) (fun x y=>by
  rw[Bool.or_eq_true,xm,xm]
  rcases StrL.tri x y with h | h | h
  ·exact .inl h.le
  ·subst h;exact .inl fun h=>h.irrefl
  ·exact .inr h.le) l
 exact h.imp fun {x y} h=>xm.1 h
theorem Wf (l r:List ac)(hl:l.length≤1048576)(hr:r.Pairwise StrL.Lt)(hm:∀x,x∈r↔x∈l):Ju l=some r:=by
 unfold Ju tt
 have hl2:(l.mergeSort fun (x y:ac)=>decide (x≤y)).length=l.length:=List.length_mergeSort _
 rw[Nat.ble_eq_true_of_le hl,cond_true,Option.bind_some,hl2,Nat.beq_refl,cond_true,StrL.compact_val _ (by rw[hl2];exact hl),Option.bind_some]
 obtain⟨h1,h2⟩:=StrL.dd_ok (U7 l)
 congr 1
 refine StrL.asc_uniq h1 hr fun x=>?_
 rw[h2,hm]
 exact (List.mergeSort_perm l _).mem_iff
theorem AM (b x:Bool):(bif b then x else false)=(b&&x):=by cases b<;>rfl
def dR (x a b:Int):Bool:=decide (x≥a)&&decide (x≤b)
theorem lj (x a b:Int):dS x a b=some (dR x a b):=by simp only[dS,fE,AM,dR]
theorem jL (x a b:Int):ii x a b=some (dR x a b):=by simp only[ii,fE,AM,dR]
def jU (c:UInt8):Bool:=(decide (97≤c.toNat)&&decide (c.toNat≤122))||(decide (48≤c.toNat)&&decide (c.toNat≤57))
theorem Sc (c:UInt8):vI (c.toNat:Int)=some (jU c):=by
 simp only[vI,jU,fE]
 by_cases h1:97≤c.toNat<;>by_cases h2:c.toNat≤122<;>by_cases h3:48≤c.toNat<;>by_cases h4:c.toNat≤57<;>simp[h1,h2,h3,h4,show ((97:Int)≤c.toNat)↔97≤c.toNat by omega,show ((c.toNat:Int)≤122)↔c.toNat≤122 by omega,show ((48:Int)≤c.toNat)↔48≤c.toNat by omega,show ((c.toNat:Int)≤57)↔c.toNat≤57 by omega]
def ln:List ac:=[[116,114,117,101],[102,114,111,109],[110,111,116],[97,110,100],[111,114],[98,111,116,104],[101,105,116,104,101,114],[105,116],[105,110]]
def fz (s:ac):Bool:=match s with
 | []=>false
 | c::r=>decide (r.length<8)&&decide (97≤c.toNat)&&decide (c.toNat≤122)&&s.all jU && !ln.contains s
theorem Ws (b x:Bool):(bif b then b else x)=(b||x):=by cases b<;>rfl
theorem LI:AF [116,114,117,101,32,102,114,111,109,32,110,111,116,32,97,110,100,32,111,114,32,98,111,116,104,32,101,105,116,104,101,114,32,105,116,32,105,110] [32]=some ln:=by
 have h:wP [116,114,117,101,32,102,114,111,109,32,110,111,116,32,97,110,100,32,111,114,32,98,111,116,104,32,101,105,116,104,101,114,32,105,116,32,105,110] [32] 0 (-1) 9 ([116,114,117,101,32,102,114,111,109,32,110,111,116,32,97,110,100,32,111,114,32,98,111,116,104,32,101,105,116,104,101,114,32,105,116,32,105,110],0,List.replicate 9 [])=some (.inr ([105,110],8,[[116,114,117,101],[102,114,111,109],[110,111,116],[97,110,100],[111,114],[98,111,116,104],[101,105,116,104,101,114],[105,116],[]])):=
  (ip (fun a=>(yk _ _ _ _ _ a).1)).2 ⟨20,by decide +kernel⟩
 have e:AF [116,114,117,101,32,102,114,111,109,32,110,111,116,32,97,110,100,32,111,114,32,98,111,116,104,32,101,105,116,104,101,114,32,105,116,32,105,110] [32]=(aX (wP [116,114,117,101,32,102,114,111,109,32,110,111,116,32,97,110,100,32,111,114,32,98,111,116,104,32,101,105,116,104,101,114,32,105,116,32,105,110] [32] 0 (-1) 9 ([116,114,117,101,32,102,114,111,109,32,110,111,116,32,97,110,100,32,111,114,32,98,111,116,104,32,101,105,116,104,101,114,32,105,116,32,105,110],0,List.replicate 9 [])) fun u12:ac×Int×(List ac)=>(aN u12.2.2 u12.2.1).bind fun e13=>(f9 (fi u12.2.2 u12.2.1 u12.1).length 0 (au (u12.2.1+1))).bind fun s14=>(fK (fi u12.2.2 u12.2.1 u12.1) (0+Int.toNat (0)) (Int.toNat ((au (u12.2.1+1))) - Int.toNat (0))).bind fun p15=>some p15).bind fun r=>some r:=by rfl
 rw[e,h]
 rfl
theorem FU (s:ac):pV ln s=some (ln.contains s):=by
 unfold pV zT
 rw[mE (L:=pO ln s) (a:=ln) (p:=fun e=>some (s==e)) (q:=fun e=>s==e) (fun _ _=>rfl) (fun x=>by rw[CK,kc]<;>rfl) (by decide)]
 cases h:ln.findIdx? (fun e=>s==e) with
 | none=>
  have:ln.contains s=false:=by
   rw[List.findIdx?_eq_none_iff] at h
   rw[Bool.eq_false_iff]
   intro hc
   rw[List.contains_iff_exists_mem_beq] at hc
   obtain⟨w,hw,he⟩:=hc
   rw[h w hw] at he
   cases he
  rw[this]
  rfl
 | some i=>
  have:ln.contains s=true:=by
   rw[List.findIdx?_eq_some_iff_getElem] at h
   obtain⟨hi,he,_⟩:=h
   rw[List.contains_iff_exists_mem_beq]
   exact⟨_,List.getElem_mem hi,he⟩
  rw[this]
  simp
theorem N1 (s:ac):(bif s==[116,114,117,101] then s==[116,114,117,101] else bif s==[102,114,111,109] then s==[102,114,111,109] else bif s==[110,111,116] then s==[110,111,116] else bif s==[97,110,100] then s==[97,110,100] else bif s==[111,114] then s==[111,114] else bif s==[98,111,116,104] then s==[98,111,116,104] else bif s==[101,105,116,104,101,114] then s==[101,105,116,104,101,114] else bif s==[105,116] then s==[105,116] else s==[105,110])=ln.contains s:=by
 simp only[Ws,ln,List.contains_cons,List.contains_nil,Bool.or_false]
theorem pd (s:ac)(hs:s.length≤1048576):qa s=some (fz s):=by
 unfold qa dS fz
 simp only[fE,Option.bind_some,N1]
 cases s with
 | nil=>rfl
 | cons c r=>
  have e1:decide (len (c::r)≥1)=true:=decide_eq_true (by simp[len];omega)
  have e2:decide (len (c::r)≤8)=decide (r.length<8):=by simp only[len,List.length_cons];congr 1;apply propext;omega
  have e3:aN (c::r) (0:Int)=some c:=rfl
  have e4:decide ((c.toNat:Int)<97)=!decide (97≤c.toNat):=by rw[←decide_not];congr 1;apply propext;omega
  have e5:decide ((c.toNat:Int)>122)=!decide (c.toNat≤122):=by rw[←decide_not];congr 1;apply propext;omega
  rw[e1,e2,e3,wX (r:=false) (L:=su (c::r)) (a:=c::r) (p:=fun c=>(vI (c.toNat:Int)).bind fun r=>some (!r)) (q:=fun c=>!jU c) (fun x _=>by rw[Sc];rfl) (fun x=>by rw[MV,mn];simp only[Option.bind_assoc,Option.bind_some]) (by omega)]
  simp only[cond_true,Option.bind_some,e4,e5]
  have e6:((c::r).any fun c=>!jU c)=!((c::r).all jU):=by rw[List.not_all_eq_any_not]
  rw[e6]
  cases decide (r.length<8)<;>cases decide (97≤c.toNat)<;>cases decide (c.toNat≤122)<;>cases (c::r).all jU<;>cases ln.contains (c::r)<;>rfl
theorem oX (s:ac)(hs:s.length≤1048576):uL s=some (fz s):=by
 unfold uL ii fz
 simp only[fE,Option.bind_some,LI,FU]
 cases s with
 | nil=>rfl
 | cons c r=>
  have e1:decide (len (c::r)≥1)=true:=decide_eq_true (by simp[len];omega)
  have e2:decide (len (c::r)≤8)=decide (r.length<8):=by simp only[len,List.length_cons];congr 1;apply propext;omega
  have e3:aN (c::r) (0:Int)=some c:=rfl
  have e4:decide ((c.toNat:Int)<97)=!decide (97≤c.toNat):=by rw[←decide_not];congr 1;apply propext;omega
  have e5:decide ((c.toNat:Int)>122)=!decide (c.toNat≤122):=by rw[←decide_not];congr 1;apply propext;omega
  have hp:∀c:UInt8,(bif decide ((c.toNat:Int)<97) then (bif decide ((c.toNat:Int)<48) then true else decide ((c.toNat:Int)>57)) else (bif decide ((c.toNat:Int)>122) then (bif decide ((c.toNat:Int)<48) then true else decide ((c.toNat:Int)>57)) else false))=!jU c:=by
   intro c
   have f1:decide ((c.toNat:Int)<97)=!decide (97≤c.toNat):=by rw[←decide_not];congr 1;apply propext;omega
   have f2:decide ((c.toNat:Int)>122)=!decide (c.toNat≤122):=by rw[←decide_not];congr 1;apply propext;omega
   have f3:decide ((c.toNat:Int)<48)=!decide (48≤c.toNat):=by rw[←decide_not];congr 1;apply propext;omega
   have f4:decide ((c.toNat:Int)>57)=!decide (c.toNat≤57):=by rw[←decide_not];congr 1;apply propext;omega
   rw[f1,f2,f3,f4]
   unfold jU
   by_cases g1:97≤c.toNat
   ·have g3:48≤c.toNat:=by omega
    have g4:¬c.toNat≤57:=by omega
    simp only[g1,g3,g4,decide_true,decide_false]
    cases decide (c.toNat≤122)<;>rfl
   ·simp only[g1,decide_false]
    cases decide (48≤c.toNat)<;>cases decide (c.toNat≤57)<;>rfl
  rw[e1,e2,e3,wX (r:=false) (L:=vn (c::r)) (a:=c::r) (p:=fun c=>some (!jU c)) (q:=fun c=>!jU c) (fun x _=>rfl) (fun x=>by rw[Po,nN];simp only[fE,hp,Option.bind_some]) (by omega)]
  simp only[cond_true,Option.bind_some,e4,e5]
  have e6:((c::r).any fun c=>!jU c)=!((c::r).all jU):=by rw[List.not_all_eq_any_not]
  rw[e6]
  cases decide (r.length<8)<;>cases decide (97≤c.toNat)<;>cases decide (c.toNat≤122)<;>cases (c::r).all jU<;>cases ln.contains (c::r)<;>rfl
theorem gi {ρ υ σ : Type}{L : Nat → σ → Option (ρ ⊕ υ)}(N : Nat)(J : Nat → σ → Prop)(T : ρ ⊕ υ → Prop)(hs : ∀ i s, i < N → J i s → (∃ s', J (i + 1) s' ∧ L i s = L (i + 1) s') ∨ ∃ y, T y ∧ L i s = some y)(he : ∀ s, J N s → ∃ y, T y ∧ L N s = some y){s : σ}(h0 : J 0 s) : ∃ y, T y ∧ L 0 s = some y := by
  have key : ∀ k i s, i + k = N → J i s → ∃ y, T y ∧ L i s = some y := by
    intro k
    induction k with
    | zero => intro i s hi hj; obtain rfl : i = N := by omega
              exact he s hj
    | succ k ih =>
      intro i s hi hj
      rcases hs i s (by omega) hj with ⟨s', h1, h2⟩ | h
      · rw [h2]; exact ih (i + 1) s' (by omega) h1
      · exact h
  exact key N 0 s (by omega) h0
theorem FT {α:Type}{L:Int→Option (Bool⊕Unit)}{a:List α}{f:α→Option Bool}{p:α→Bool}(hf:∀x∈a,f x=some (p x))(hL:∀x,L x=bif decide (x<len a) then (aN a x).bind fun e=>(f e).bind fun r=>bif !r then some (.inl false) else L (au (x+1)) else some (.inr ()))(hb:a.length<9223372036854775807):L 0=some (if a.all p then .inr () else .inl false):=by
 obtain⟨y,h1,h2⟩:=gi (L:=fun i (_:Unit)=>L (i:Int)) a.length (fun i _=>(a.take i).all p=true) (fun y=>y=if a.all p then .inr () else .inl false) (s:=())
  (by
   intro i _ hi hj
   have hx:=List.getElem?_eq_getElem hi
   rw[show L (i:Int)=_ from hL _,bu,decide_eq_true hi,cond_true,bD,hx,Option.bind_some,hf _ (List.getElem_mem hi),Option.bind_some,ca (by omega)]
   cases hp:p a[i] with
   | true=>
    refine .inl ⟨(),?_,rfl⟩
    rw[List.take_add_one,hx,List.all_append,hj]
    simp[hp]
   | false=>
    refine .inr ⟨_,?_,rfl⟩
    rw[if_neg]
    intro h
    rw[List.all_eq_true] at h
    rw[h _ (List.getElem_mem hi)] at hp
    cases hp)
  (by
   intro _ hj
   refine⟨_,rfl,?_⟩
   rw[List.take_length] at hj
   rw[show L (a.length:Int)=_ from hL _,bu,decide_eq_false (by omega),cond_false,if_pos hj]) (by simp)
 rw[show L 0=some y from h2,h1]
theorem tW {ρ υ α:Type}{q:α→Bool}{y0 y1:ρ⊕υ}:∀{a:List α} {L:Nat→Option (ρ⊕υ)},(∀(i:Nat) x,a[i]?=some x→L i=bif q x then some y0 else L (i+1))→L a.length=some y1→L 0=some (if a.any q then y0 else y1)
 | [],L,_,he=>by simpa using he
 | x::a,L,hL,he=>by
  rw[hL 0 x rfl,tW (a:=a) (L:=fun i=>L (i+1)) (y0:=y0) (y1:=y1) (fun i z hz=>hL (i+1) z (by simpa using hz)) (by simpa using he),List.any_cons]
  cases q x<;>rfl
def qS (c:Condition):Bool:=
 if c.Op=1 then decide (c.Parts.length=0)&&(decide (c.Name=[])&&decide (c.Day=0))
 else if c.Op=2 then decide (c.Parts.length=0)&&(fz c.Name&&decide (c.Day=0))
 else if c.Op=3 then decide (c.Parts.length=0)&&(decide (c.Name=[])&&dR c.Day 0 36524)
 else if c.Op=4 then decide (c.Parts.length=1)&&(decide (c.Name=[])&&decide (c.Day=0))
 else if c.Op=5∨c.Op=6 then decide (c.Parts.length=2)&&(decide (c.Name=[])&&decide (c.Day=0))
 else false
mutual
def ez:Condition→Bool
 | ⟨a0,a1,a2,a3⟩=>qS ⟨a0,a1,a2,a3⟩&&xc a3
def xc:List Condition→Bool
 | []=>true
 | x::xs=>ez x&&xc xs
end
theorem yz:∀a,xc a=a.all ez
 | []=>rfl
 | x::xs=>by simp[xc,yz xs]
theorem qT (c:Condition):ez c=(qS c&&c.Parts.all ez):=by cases c;simp only[ez,yz]
theorem xe {α:Type}{a:List α}{n:Nat}:(len a==(n:Int))=decide (a.length=n):=by
 rw[mG]
 by_cases h:a.length=n
 ·rw[decide_eq_true h,decide_eq_true];simp only[len];omega
 ·rw[decide_eq_false h,decide_eq_false];simp only[len];omega
theorem Sb (c:Condition)(hn:c.Name.length≤1048576):Af c=some (qS c):=by
 have l0:(len c.Parts==0)=decide (c.Parts.length=0):=xe (n:=0)
 have l1:(len c.Parts==1)=decide (c.Parts.length=1):=xe (n:=1)
 have l2:(len c.Parts==2)=decide (c.Parts.length=2):=xe (n:=2)
 unfold Af qS
 simp only[fE,pd _ hn,Option.bind_some,nP,lj,l0,l1,l2,xj,mG,AM]
 by_cases o1:c.Op=1
 ·simp only[o1,decide_true,cond_true,if_true]
 by_cases o2:c.Op=2
 ·rw[decide_eq_false o1,decide_eq_true o2,cond_false,cond_true,if_neg o1,if_pos o2]
  cases decide (c.Parts.length=0)<;>rfl
 by_cases o3:c.Op=3
 ·rw[decide_eq_false o1,decide_eq_false o2,decide_eq_true o3,cond_false,cond_false,cond_true,if_neg o1,if_neg o2,if_pos o3]
  cases decide (c.Parts.length=0)<;>cases decide (c.Name=[])<;>rfl
 by_cases o4:c.Op=4
 ·rw[decide_eq_false o1,decide_eq_false o2,decide_eq_false o3,decide_eq_true o4,if_neg o1,if_neg o2,if_neg o3,if_pos o4]
  rfl
 rw[decide_eq_false o1,decide_eq_false o2,decide_eq_false o3,decide_eq_false o4,if_neg o1,if_neg o2,if_neg o3,if_neg o4]
 by_cases o5:c.Op=5
 ·simp only[o5,decide_true,cond_true,cond_false,true_or,if_true]
 ·by_cases o6:c.Op=6
  ·rw[if_pos (.inr o6),decide_eq_false o5,decide_eq_true o6];rfl
  ·rw[if_neg (by omega),decide_eq_false o5,decide_eq_false o6];rfl
theorem NX (c:Condition):bQ c→Fu c=some (ez c):=by
 refine eG (P:=fun c=>bQ c→Fu c=some (ez c)) ?_ c
 intro c ih hc
 rw[f6] at hc
 rw[VM]
 unfold sr
 rw[Sb c hc.2.1,Option.bind_some,qT]
 cases qS c with
 | false=>rfl
 | true=>
  have hl:c.Parts.length≤1048576:=hc.2.2.2.1.1
  simp only[Bool.not_true,cond_false,Bool.true_and]
  rw[FT (L:=pP (aF pZ) c) (a:=c.Parts) (f:=fun e=>Fu e) (p:=ez) (fun x hx=>ih x hx (hc.2.2.2.1.2 x hx)) (fun x=>by rw[MT,ki]<;>rfl) (by omega)]
  cases c.Parts.all ez<;>rfl
theorem pS (a:List Condition)(i:Nat)(h:i<a.length):aJ (a.take (i+1))=aJ (a.take i)+aW a[i]:=by
 have app:∀(x y:List Condition),aJ (x++y)=aJ x+aJ y:=by
  intro x y
  induction x with
  | nil=>simp[aJ]
  | cons z x ih=>simp only[List.cons_append,aJ,ih];omega
 rw[List.take_add_one,List.getElem?_eq_getElem h,app]
 simp[aJ]
theorem lc (a:List Condition)(i:Nat):aJ (a.take i)≤aJ a:=by
 have app:∀(x y:List Condition),aJ (x++y)=aJ x+aJ y:=by
  intro x y
  induction x with
  | nil=>simp[aJ]
  | cons z x ih=>simp only[List.cons_append,aJ,ih];omega
 have:=app (a.take i) (a.drop i)
 rw[List.take_append_drop] at this
 omega
theorem Sd (c:Condition):aW c≤2000000→I2 c=some ((aW c:Nat):Int):=by
 refine eG (P:=fun c=>aW c≤2000000→I2 c=some ((aW c:Nat):Int)) ?_ c
 intro c ih hc
 have hc':=eA c
 have hcs:=eY c.Parts
 rw[VO]
 unfold sB
 obtain⟨y,h1,h2⟩:=gi (L:=fun i (s:Int)=>kR (aF kn) c (s,(i:Int))) c.Parts.length (fun i s=>s=((1+aJ (c.Parts.take i):Nat):Int)) (fun y=>y=.inr ((aW c:Nat):Int)) (s:=1)
  (by
   intro i s hi hj
   have hx:=List.getElem?_eq_getElem hi
   have h3:=pS c.Parts i hi
   have h4:=lc c.Parts (i+1)
   refine .inl ⟨((1+aJ (c.Parts.take (i+1)):Nat):Int),rfl,?_⟩
   show kR (aF kn) c (s,(i:Int))=_
   rw[Dl,i9]
   simp only[bu,decide_eq_true hi,cond_true,bD,hx,Option.bind_some]
   rw[show aF kn c.Parts[i]=some ((aW c.Parts[i]:Nat):Int) from ih _ (List.getElem_mem hi) (by omega),Option.bind_some,ca (by omega),hj,jC (by omega) (by omega)]
   congr 2
   omega)
  (by
   intro s hj
   refine⟨_,rfl,?_⟩
   rw[List.take_length] at hj
   show kR (aF kn) c (s,(c.Parts.length:Int))=_
   rw[Dl,i9]
   simp only[bu,decide_eq_false (Nat.lt_irrefl _),cond_false]
   rw[hj,hc']) (by simp[aJ])
 rw[show kR (aF kn) c (1,0)=some y from h2,h1]
 rfl
def mY (c:Condition):Bool:=ez c&&decide (aW c≤15)
theorem aag {c:Condition}(h:bQ c):aW c≤1048577:=by
 rw[f6] at h
 rw[eA]
 omega
theorem R8 (c:Condition)(h:bQ c):Aj c=some (mY c):=by
 unfold Aj mY
 rw[NX c h,Option.bind_some]
 cases ez c with
 | false=>rfl
 | true=>
  have:=aag h
  simp only[cond_true,Bool.true_and]
  rw[Sd c (by omega),Option.bind_some,cM]
  congr 1
  by_cases h:aW c≤15
  ·rw[decide_eq_true h,decide_eq_true (by omega)]
  ·rw[decide_eq_false h,decide_eq_false (by omega)]
def N5 (op:Int):Nat:=if op=4 then 1 else if op=5∨op=6 then 2 else 0
def F4 (c:Condition):Bool:=dR c.Op 1 6&&decide (c.Parts.length=N5 c.Op)
def ET (c:Condition):Bool:=((c.Op==2) == !(c.Name==([]:ac)))&&((if c.Op=2 then fz c.Name else true)&&((if c.Op=3 then true else decide (c.Day=0))&&dR c.Day 0 36524))
theorem mF {x a b:Int}:dR x a b=true↔a≤x∧x≤b:=by simp[dR]
theorem RE (c:Condition):((ii c.Op 1 6).bind fun r20=>bU (ρ:=Int) (bif (!r20) then (some (.inr true)) else ((aN [(-1),0,0,0,1,2,2] c.Op).bind fun e22=>some (.inr ((len c.Parts) != e22)))) fun u21:Bool=>(some (.inr u21):Option (Int⊕Bool)))=some (.inr (!F4 c)):=by
 rw[jL,Option.bind_some]
 unfold F4
 cases h:dR c.Op 1 6 with
 | false=>rfl
 | true=>
  rw[mF] at h
  have ho:c.Op=1∨c.Op=2∨c.Op=3∨c.Op=4∨c.Op=5∨c.Op=6:=by omega
  have key:aN [(-1),0,0,0,1,2,2] c.Op=some ((N5 c.Op:Nat):Int):=by rcases ho with h | h | h | h | h | h<;>rw[h]<;>rfl
  simp only[Bool.not_true,cond_false,key,Option.bind_some,eR,Bool.true_and,bne,xe]
theorem RF (c:Condition)(hn:c.Name.length≤1048576):(bif (!((c.Op==2)==(!(c.Name==([]:ac))))) then (some (.inr true)) else (bU (ρ:=Int) (bif (c.Op==2) then ((uL c.Name).bind fun r10=>bU (ρ:=Int) (bif (!r10) then (some (.inr true)) else (bU (ρ:=Int) (bif (c.Op != 3) then (bU (ρ:=Int) (bif (c.Day != 0) then (some (.inr true)) else ((my c.Day).bind fun r14=>some (.inr (!r14)))) fun u13:Bool=>some (.inr u13)) else ((my c.Day).bind fun r15=>some (.inr (!r15)))) fun u12:Bool=>some (.inr u12))) fun u11:Bool=>some (.inr u11)) else (bU (ρ:=Int) (bif (c.Op != 3) then (bU (ρ:=Int) (bif (c.Day != 0) then (some (.inr true)) else ((my c.Day).bind fun r18=>some (.inr (!r18)))) fun u17:Bool=>some (.inr u17)) else ((my c.Day).bind fun r19=>some (.inr (!r19)))) fun u16:Bool=>some (.inr u16))) fun u9:Bool=>(some (.inr u9):Option (Int⊕Bool))))=some (.inr (!ET c)):=by
 unfold ET
 simp only[oX _ hn,my,jL,Option.bind_some,WF]
 cases ((c.Op==2) == !(c.Name==([]:ac))) with
 | false=>rfl
 | true=>
  simp only[Bool.not_true,cond_false,Bool.true_and]
  by_cases o2:c.Op=2
  ·simp only[o2,if_true,show ((2:Int)==2)=true from rfl,cond_true,show ¬(2:Int)=3 by omega,if_false,decide_false,Bool.not_false]
   cases fz c.Name<;>by_cases hd:c.Day=0<;>simp[hd]
  ·have:(c.Op==2)=false:=beq_eq_false_iff_ne.2 o2
   rw[this,cond_false,if_neg o2]
   by_cases o3:c.Op=3
   ·simp[o3]
   ·by_cases hd:c.Day=0<;>simp[o3,hd]
theorem Ey (c:Condition):qS c=(F4 c&&ET c):=by
 have name0:c.Name=[]→fz c.Name=false:=fun h=>by rw[h];rfl
 have d0:c.Day=0→dR c.Day 0 36524=true:=fun h=>by rw[h];rfl
 have in1:dR c.Op 1 6=decide (1≤c.Op∧c.Op≤6):=by rw[Bool.eq_iff_iff,mF,decide_eq_true_iff]
 unfold qS F4 ET
 rw[in1,show N5 c.Op=if c.Op=4 then 1 else if c.Op=5∨c.Op=6 then 2 else 0 from rfl]
 by_cases hn:c.Name=[]
 ·by_cases hd:c.Day=0
  ·by_cases o1:c.Op=1
   ·simp[o1,hn,hd,dR]
   by_cases o2:c.Op=2
   ·simp[o2,hn,hd,fz]
   by_cases o3:c.Op=3
   ·simp[o3,hn,hd,dR]
   by_cases o4:c.Op=4
   ·simp[o4,hn,hd,dR]
   by_cases o5:c.Op=5
   ·simp[o5,hn,hd,dR]
   by_cases o6:c.Op=6
   ·simp[o6,hn,hd,dR]
   have:¬(1≤c.Op∧c.Op≤6):=by omega
   simp[o1,o2,o3,o4,o5,o6,decide_eq_false this]
  ·by_cases o3:c.Op=3
   ·simp[o3,hn]
   ·by_cases o2:c.Op=2<;>simp[o2,o3,hd]
 ·have hb:(c.Name==([]:ac))=false:=beq_eq_false_iff_ne.2 hn
  by_cases o2:c.Op=2
  ·by_cases hd:c.Day=0<;>simp[o2,hn,hd,dR,hb]
  ·simp[o2,hn,hb]
theorem ND (c:Condition):bQ c→∀so:Nat,so≤15→Q7 c (so:Int)=some (if ez c=true∧so+aW c≤15 then ((so+aW c:Nat):Int) else -1):=by
 refine eG (P:=fun c=>bQ c→∀so:Nat,so≤15→Q7 c (so:Int)=some (if ez c=true∧so+aW c≤15 then ((so+aW c:Nat):Int) else -1)) ?_ c
 intro c ih hc so hso
 rw[f6] at hc
 have hnc:=eA c
 rw[YQ]
 unfold wU
 rw[RE,RF c hc.2.1,ca (by omega),qT,Ey]
 by_cases h15:so+1≤15
 ·rw[decide_eq_false (by omega),cond_false]
  cases F4 c with
  | false=>rfl
  | true=>
  cases ET c with
  | false=>rfl
  | true=>
   simp only[Bool.not_true,cM,cond_false,Bool.true_and]
   obtain⟨y,h1,h2⟩:=gi (L:=fun i (s:Int)=>ls (aF lD) c (so:Int) (s,(i:Int))) c.Parts.length
    (fun i s=>s=((so+1+aJ (c.Parts.take i):Nat):Int)∧so+1+aJ (c.Parts.take i)≤15∧(c.Parts.take i).all ez=true)
    (fun y=>y=if c.Parts.all ez=true∧so+aW c≤15 then .inr ((so+aW c:Nat):Int) else .inl (-1)) (s:=((so+1:Nat):Int))
    (by
     rintro i s hi ⟨hj,hj2,hj3⟩
     have hx:=List.getElem?_eq_getElem hi
     have h3:=pS c.Parts i hi
     have h4:=lc c.Parts (i+1)
     have h5:=ih _ (List.getElem_mem hi) (hc.2.2.2.1.2 _ (List.getElem_mem hi)) (so+1+aJ (c.Parts.take i)) hj2
     show (∃s',_∧ls (aF lD) c (so:Int) (s,(i:Int))=_)∨∃y,_∧ls (aF lD) c (so:Int) (s,(i:Int))=_
     rw[Gt,kw]
     simp only[bu,decide_eq_true hi,cond_true,bD,hx,Option.bind_some,hj]
     rw[show aF lD (c.Parts[i],((so+1+aJ (c.Parts.take i):Nat):Int))=_ from h5,Option.bind_some,ca (by have:=hc.2.2.2.1.1;omega)]
     by_cases hq:ez c.Parts[i]=true∧so+1+aJ (c.Parts.take i)+aW c.Parts[i]≤15
     ·rw[if_pos hq,decide_eq_false (by omega),cond_false]
      refine .inl ⟨_,⟨?_,?_,?_⟩,rfl⟩
      ·congr 1;omega
      ·omega
      ·rw[List.take_add_one,hx,List.all_append,hj3];simp[hq.1]
     ·rw[if_neg hq,decide_eq_true (by omega),cond_true]
      refine .inr ⟨_,?_,rfl⟩
      rw[if_neg]
      rintro⟨h6,h7⟩
      rw[List.all_eq_true] at h6
      exact hq ⟨h6 _ (List.getElem_mem hi),by omega⟩)
    (by
     rintro s ⟨hj,hj2,hj3⟩
     rw[List.take_length] at *
     show ∃y,_∧ls (aF lD) c (so:Int) (s,(c.Parts.length:Int))=_
     rw[Gt,kw]
     simp only[bu,decide_eq_false (Nat.lt_irrefl _),cond_false]
     refine⟨_,?_,rfl⟩
     rw[if_pos ⟨hj3,by omega⟩,hj]
     congr 2;omega) ⟨by simp[aJ],by simp[aJ];omega,by simp⟩
   rw[show ls (aF lD) c (so:Int) (((so+1:Nat):Int),0)=some y from h2,h1]
   by_cases hq:c.Parts.all ez=true∧so+aW c≤15
   ·rw[if_pos hq,if_pos hq];rfl
   ·rw[if_neg hq,if_neg hq];rfl
 ·rw[decide_eq_true (by omega),cond_true,cM,cond_true,if_neg (by omega)]
theorem RB (c:Condition)(h:bQ c):Ih c=some (mY c):=by
 unfold Ih mY
 rw[show (0:Int)=((0:Nat):Int) from rfl,ND c h 0 (by omega),Option.bind_some]
 have:=eA c
 congr 1
 cases ez c with
 | false=>rfl
 | true=>
  by_cases h:aW c≤15
  ·rw[if_pos ⟨rfl,by omega⟩,decide_eq_true (by omega),decide_eq_true h];rfl
  ·rw[if_neg (by omega),decide_eq_false h];rfl
mutual
def jz:Condition→List ac
 | ⟨op,name,_,parts⟩=>(if op=2 then [name] else [])++eq parts
def eq:List Condition→List ac
 | []=>[]
 | x::xs=>jz x++eq xs
end
theorem GR (c:Condition):jz c=(if c.Op=2 then [c.Name] else [])++eq c.Parts:=by cases c;simp only[jz]
theorem yD:∀(a b:List Condition),eq (a++b)=eq a++eq b
 | [],b=>rfl
 | x::a,b=>by simp only[List.cons_append,eq,yD a b,List.append_assoc]
theorem wo (a:List Condition)(i:Nat)(h:i<a.length):eq (a.take (i+1))=eq (a.take i)++jz a[i]:=by
 rw[List.take_add_one,List.getElem?_eq_getElem h,yD]
 simp[eq]
mutual
theorem EJ:∀c,(jz c).length≤aW c
 | ⟨op,name,day,parts⟩=>by
  have:=rx parts
  simp only[jz,aW,List.length_append]
  split<;>simp<;>omega
theorem rx:∀a,(eq a).length≤aJ a
 | []=>by simp[eq]
 | x::a=>by
  have h1:=EJ x
  have h2:=rx a
  simp only[eq,aJ,List.length_append]
  omega
end
theorem NG (c:Condition):∀l:List ac,l.length+aW c≤1000000→Q4 c l=some (l++jz c):=by
 refine eG (P:=fun c=>∀l:List ac,l.length+aW c≤1000000→Q4 c l=some (l++jz c)) ?_ c
 intro c ih l hl
 have hnc:=eA c
 have hpl:=eY c.Parts
 rw[YP]
 unfold wS
 have h0:(bif (c.Op==2) then ((ge 16 l [c.Name]).bind fun a8=>some (.inr a8)) else (some (.inr l)):Option (List ac⊕List ac))=some (.inr (l++if c.Op=2 then [c.Name] else [])):=by
  rw[mG]
  by_cases h:c.Op=2
  ·rw[decide_eq_true h,cond_true,nW (by omega) (by omega),if_pos h];rfl
  ·rw[decide_eq_false h,cond_false,if_neg h,List.append_nil]
 rw[h0,cM]
 have hlen:(l++if c.Op=2 then [c.Name] else []).length≤l.length+1:=by
  rw[List.length_append];split<;>simp
 rw[GR,←List.append_assoc]
 generalize (l++if c.Op=2 then [c.Name] else [])=l1 at hlen ⊢
 obtain⟨y,h1,h2⟩:=gi (L:=fun i (s:List ac)=>mS (aF mR) c l ((i:Int),s)) c.Parts.length (fun i s=>s=l1++eq (c.Parts.take i)) (fun y=>y=.inr (l1++eq c.Parts)) (s:=l1)
  (by
   intro i s hi hj
   have hx:=List.getElem?_eq_getElem hi
   have h3:=pS c.Parts i hi
   have h4:=lc c.Parts (i+1)
   have h5:=rx (c.Parts.take i)
   refine .inl ⟨l1++eq (c.Parts.take (i+1)),rfl,?_⟩
   show mS (aF mR) c l ((i:Int),s)=_
   rw[Gr,kv]
   simp only[bu,decide_eq_true hi,cond_true,bD,hx,Option.bind_some]
   rw[show aF mR (c.Parts[i],s)=_ from ih _ (List.getElem_mem hi) s (by rw[hj,List.length_append];omega),Option.bind_some,ca (by omega),hj,wo _ _ hi,List.append_assoc])
  (by
   intro s hj
   refine⟨_,rfl,?_⟩
   rw[List.take_length] at hj
   show mS (aF mR) c l ((c.Parts.length:Int),s)=_
   rw[Gr,kv]
   simp only[bu,decide_eq_false (Nat.lt_irrefl _),cond_false]
   rw[hj]) (by simp[eq])
 rw[show mS (aF mR) c l (0,l1)=some y from h2,h1]
 rfl
theorem Ex {c:Condition}(h:qS c=true)(ho:c.Op=2∨c.Op=3):c.Parts=[]:=by
 rw[Ey,F4,N5] at h
 rw[Bool.and_eq_true,Bool.and_eq_true,decide_eq_true_iff] at h
 have:=h.1.2
 rw[if_neg (by omega),if_neg (by omega)] at this
 exact List.length_eq_zero_iff.1 this
theorem NZ (c:Condition):ez c=true→∀l:List ac,l.length+aW c≤1000000→l.Pairwise StrL.Lt→∃r,IZ l c=some r∧r.Pairwise StrL.Lt∧(∀x,x∈r↔x∈l∨x∈jz c)∧r.length≤l.length+aW c:=by
 refine eG (P:=fun c=>ez c=true→∀l:List ac,l.length+aW c≤1000000→l.Pairwise StrL.Lt→∃r,IZ l c=some r∧r.Pairwise StrL.Lt∧(∀x,x∈r↔x∈l∨x∈jz c)∧r.length≤l.length+aW c) ?_ c
 intro c ih hf l hl hs
 have hnc:=eA c
 have hpl:=eY c.Parts
 rw[qT,Bool.and_eq_true,List.all_eq_true] at hf
 rw[VN]
 unfold sv
 rw[mG,GR]
 by_cases ho:c.Op=2
 ·obtain⟨r,e,r1,r2,r3⟩:=StrL.put_val l c.Name (by omega) hs
  rw[decide_eq_true ho,cond_true,e,if_pos ho,Ex hf.1 (.inl ho)]
  exact⟨r,rfl,r1,fun x=>by rw[r2];simp[eq],by omega⟩
 rw[decide_eq_false ho,cond_false,if_neg ho,List.nil_append]
 obtain⟨y,h1,h2⟩:=gi (L:=fun i (s:List ac)=>kQ (aF kj) l c ((i:Int),s)) c.Parts.length
  (fun i s=>s.Pairwise StrL.Lt∧(∀x,x∈s↔x∈l∨x∈eq (c.Parts.take i))∧s.length≤l.length+aJ (c.Parts.take i))
  (fun y=>∃r,y=.inr r∧r.Pairwise StrL.Lt∧(∀x,x∈r↔x∈l∨x∈eq c.Parts)∧r.length≤l.length+aW c) (s:=l)
  (by
   rintro i s hi ⟨j1,j2,j3⟩
   have hx:=List.getElem?_eq_getElem hi
   have h3:=pS c.Parts i hi
   have h4:=lc c.Parts (i+1)
   obtain⟨r,e,r1,r2,r3⟩:=ih _ (List.getElem_mem hi) (hf.2 _ (List.getElem_mem hi)) s (by omega) j1
   refine .inl ⟨r,⟨r1,fun x=>?_,by omega⟩,?_⟩
   ·rw[r2,j2,wo _ _ hi,List.mem_append,or_assoc]
   show kQ (aF kj) l c ((i:Int),s)=_
   rw[Df,i8]
   simp only[bu,decide_eq_true hi,cond_true,bD,hx,Option.bind_some]
   rw[show aF kj (s,c.Parts[i])=_ from e,Option.bind_some,ca (by omega)])
  (by
   rintro s ⟨j1,j2,j3⟩
   rw[List.take_length] at *
   refine⟨.inr s,⟨s,rfl,j1,j2,by omega⟩,?_⟩
   show kQ (aF kj) l c ((c.Parts.length:Int),s)=_
   rw[Df,i8]
   simp only[bu,decide_eq_false (Nat.lt_irrefl _),cond_false]) ⟨hs,fun x=>by simp[eq],by simp[aJ]⟩
 obtain⟨r,rfl,hr⟩:=h1
 rw[show kQ (aF kj) l c (0,l)=some (.inr r) from h2]
 exact⟨r,rfl,hr⟩
theorem wc (l:List ac)(s:ac)(hl:l.length≤1048576):pV l s=some (l.contains s):=by
 unfold pV zT
 rw[mE (L:=pO l s) (a:=l) (p:=fun e=>some (s==e)) (q:=fun e=>s==e) (fun _ _=>rfl) (fun x=>by rw[CK,kc]<;>rfl) (by omega)]
 cases h:l.findIdx? (fun e=>s==e) with
 | none=>
  have:l.contains s=false:=by
   rw[List.findIdx?_eq_none_iff] at h
   rw[Bool.eq_false_iff]
   intro hc
   rw[List.contains_iff_exists_mem_beq] at hc
   obtain⟨w,hw,he⟩:=hc
   rw[h w hw] at he
   cases he
  rw[this]
  rfl
 | some i=>
  have:l.contains s=true:=by
   rw[List.findIdx?_eq_some_iff_getElem] at h
   obtain⟨hi,he,_⟩:=h
   rw[List.contains_iff_exists_mem_beq]
   exact⟨_,List.getElem_mem hi,he⟩
  rw[this]
  simp
theorem Uf (a b:ac):(a==b)=(b==a):=by
 rw[xj,xj]
 by_cases h:a=b
 ·simp[h]
 ·simp[h,Ne.symm h]
theorem Me (l:List ac)(s:ac)(hl:l.length≤1048576):tG l s=some (l.contains s):=by
 unfold tG
 rw[wX (L:=ss l s) (a:=l) (p:=fun e=>some (e==s)) (q:=fun e=>e==s) (r:=true) (fun _ _=>rfl) (fun x=>by rw[MU,mj]<;>rfl) (by omega)]
 have:(l.any fun e=>e==s)=l.contains s:=by
  rw[List.contains_eq_any_beq]
  congr 1
  funext e
  exact Uf e s
 rw[this]
 cases l.contains s<;>rfl
def Ue (l:List ac)(k:Nat):Bool:=match l[k]? with
 | some e=>!fz e||(l.take k).contains e
 | none=>false
def ww (l:List ac):Nat→Nat→Bool
 | 0,_=>true
 | n+1,k=>!Ue l k&&ww l n (k+1)
theorem A9 {α:Type}{l:List α}{k:Nat}(h:k≤l.length):pn l 0 (k:Int)=some (l.take k):=by
 unfold pn
 rw[if_pos (by omega)]
 simp
theorem yL (l:List ac)(cs:List Clause)(hl:hC mK l):∀(n k:Nat),k+n=l.length→sG ⟨l,cs⟩ (k:Int)=some (bif ww l n k then .inr () else .inl false)
 | 0,k,hk=>by
  have h1:=hl.1
  rw[DD,kr]
  simp only[bu]
  rw[decide_eq_false (by omega)]
  rfl
 | n+1,k,hk=>by
  have h1:=hl.1
  obtain⟨e,he⟩:∃e,l[k]?=some e:=⟨_,List.getElem?_eq_getElem (by omega)⟩
  rw[DD,kr]
  simp only[bu]
  rw[decide_eq_true (by omega)]
  simp only[cond_true,bD,he,Option.bind_some,pd e (hl.2 e (List.mem_of_getElem? he)),A9 (show k≤l.length by omega),Me _ e (show (l.take k).length≤1048576 by rw[List.length_take];omega)]
  rw[ca (by omega),yL l cs hl n (k+1) (by omega)]
  simp only[ww,Ue,he]
  cases fz e<;>cases (l.take k).contains e<;>rfl
theorem yC (l:List ac)(hl:hC mK l):∀(n k:Nat),k+n=l.length→vS l (k:Int)=some (bif ww l n k then .inr () else .inl false)
 | 0,k,hk=>by
  have h1:=hl.1
  rw[Gs,lN]
  simp only[bu]
  rw[decide_eq_false (by omega)]
  rfl
 | n+1,k,hk=>by
  have h1:=hl.1
  obtain⟨e,he⟩:∃e,l[k]?=some e:=⟨_,List.getElem?_eq_getElem (by omega)⟩
  rw[Gs,lN]
  simp only[bu]
  rw[decide_eq_true (by omega)]
  simp only[cond_true,bD,he,Option.bind_some,oX e (hl.2 e (List.mem_of_getElem? he)),A9 (show k≤l.length by omega),wc _ e (show (l.take k).length≤1048576 by rw[List.length_take];omega)]
  rw[ca (by omega),yC l hl n (k+1) (by omega)]
  simp only[ww,Ue,he]
  cases fz e<;>cases (l.take k).contains e<;>rfl
def pD (l:List ac):Bool:=ww l l.length 0&&dR (len l) 2 4
theorem UU (l:List ac)(cs:List Clause)(hl:hC mK l):vP ⟨l,cs⟩=some (pD l):=by
 unfold vP pD
 have:=yL l cs hl l.length 0 (by omega)
 rw[show (0:Int)=((0:Nat):Int) by rfl,this]
 simp only[lj]
 cases ww l l.length 0<;>rfl
theorem Uy (l:List ac)(hl:hC mK l):Jg l=some (pD l):=by
 unfold Jg pD
 have:=yC l hl l.length 0 (by omega)
 rw[show (0:Int)=((0:Nat):Int) by rfl,this]
 simp only[jL]
 cases ww l l.length 0<;>rfl
def jh (cs:List Clause)(id:ac):Int:=match cs.findIdx? (fun e=>e.Id==id) with
 | some i=>(i:Int)
 | none=>-1
theorem G5 (c:Contract)(id:ac)(hl:c.Clauses.length≤1048576):tJ c id=some (jh c.Clauses id):=by
 unfold tJ jh
 rw[mE (L:=sE c id) (a:=c.Clauses) (p:=fun e=>some (e.Id==id)) (q:=fun e=>e.Id==id) (fun _ _=>rfl) (fun x=>by rw[MX,mq]<;>rfl) (by omega)]
 cases c.Clauses.findIdx? (fun e=>e.Id==id)<;>rfl
theorem GN (c:Contract)(id:ac)(hl:c.Clauses.length≤1048576):D7 c id=some (jh c.Clauses id):=by
 unfold D7 Fm jh
 rw[mE (L:=rZ c.Clauses id) (a:=c.Clauses) (p:=fun e=>some (e.Id==id)) (q:=fun e=>e.Id==id) (fun _ _=>rfl) (fun x=>by rw[MN,md]<;>rfl) (by omega)]
 cases c.Clauses.findIdx? (fun e=>e.Id==id)<;>rfl
theorem L7 (cs:List Clause)(id:ac):jh cs id=-1∨∃j:Nat,jh cs id=(j:Int)∧j<cs.length:=by
 unfold jh
 cases h:cs.findIdx? (fun e=>e.Id==id) with
 | none=>exact .inl rfl
 | some j=>
  rw[List.findIdx?_eq_some_iff_getElem] at h
  exact .inr ⟨j,rfl,h.1⟩
def Kn (cs:List Clause)(i:Int)(e:Clause):Bool:=match jh cs e.Repair with
 | .ofNat k=>match cs[k]? with
  | some e'=>((k:Int) != i)&&((e'.Kind==1)&&(e.Kind != 3))
  | none=>false
 | .negSucc _=>false
def jH (c:Contract)(i:Int)(e:Clause):Bool:=
 fz e.Id&&(fz e.Action&&(dR e.Kind 1 4&&(dR e.Party 0 (au (len c.Parties - 1))&&(dR e.Other 0 (au (len c.Parties - 1))&&(!(e.Party==e.Other)&&(mY e.When&&(dR e.Amount 0 1000000&&(dR e.Within 0 400&&(!(bif e.Kind != 1 then (bif e.Amount != 0 then true else e.Within != 0) else false) &&
  (bif e.Repair==[] then true else Kn c.Clauses i e))))))))))
theorem UV (c:Contract)(i:Int)(e:Clause)(hl:c.Clauses.length≤1048576):((tJ c e.Repair).bind fun r8=>aX (ρ:=Bool) (bif (decide (r8≥0)) then (bU (ρ:=Bool) (bif (r8 != i) then ((aN c.Clauses r8).bind fun e11=>cD (bif (e11.Kind==1) then ((e.Kind != 3)) else (false)) fun u12:Bool=>some (.inr u12)) else (some (.inr false))) fun u10:Bool=>some (.inr u10)) else (some (.inr false))) fun u9:Bool=>some u9)=some (Kn c.Clauses i e):=by
 rw[G5 c _ hl,Option.bind_some]
 unfold Kn
 rcases L7 c.Clauses e.Repair with h | ⟨j,h,hj⟩
 ·rw[h];rfl
 ·rw[h,decide_eq_true (by omega),cond_true,bD,List.getElem?_eq_getElem hj,Option.bind_some]
  show _=some (match c.Clauses[j]? with | some e'=>_ | none=>false)
  rw[List.getElem?_eq_getElem hj]
  show _=some (((j:Int) != i)&&((c.Clauses[j].Kind==1)&&(e.Kind != 3)))
  cases ((j:Int) != i)<;>cases (c.Clauses[j].Kind==1)<;>rfl
theorem Uz (c:Contract)(i:Int)(e:Clause)(hl:c.Clauses.length≤1048576):((D7 c e.Repair).bind fun r10=>aX (ρ:=Bool) (bif (e.Kind != 3) then (bU (ρ:=Bool) (bif (decide (r10≥0)) then (bU (ρ:=Bool) (bif (r10 != i) then ((aN c.Clauses r10).bind fun e14=>some (.inr (e14.Kind==1))) else (some (.inr false))) fun u13:Bool=>some (.inr u13)) else (some (.inr false))) fun u12:Bool=>some (.inr u12)) else (some (.inr false))) fun u11:Bool=>some u11)=some (Kn c.Clauses i e):=by
 rw[GN c _ hl,Option.bind_some]
 unfold Kn
 rcases L7 c.Clauses e.Repair with h | ⟨j,h,hj⟩
 ·rw[h];cases (e.Kind != 3)<;>rfl
 ·rw[h,decide_eq_true (by omega),cond_true,bD,List.getElem?_eq_getElem hj,Option.bind_some]
  show _=some (match c.Clauses[j]? with | some e'=>_ | none=>false)
  rw[List.getElem?_eq_getElem hj]
  show _=some (((j:Int) != i)&&((c.Clauses[j].Kind==1)&&(e.Kind != 3)))
  cases ((j:Int) != i)<;>cases (c.Clauses[j].Kind==1)<;>cases (e.Kind != 3)<;>rfl
theorem LG (c:Contract)(i:Int)(e:Clause)(he:aN c.Clauses i=some e)(hs:gm e)(hl:c.Clauses.length≤1048576):Ao c i=some (jH c i e):=by
 unfold Ao jH
 rw[he,Option.bind_some,UV c i e hl]
 simp only[pd _ hs.1,pd _ hs.2.2.2.1,lj,R8 _ hs.2.2.2.2.2.2.1,Option.bind_some,fE]
 cases fz e.Id with | false=>rfl | true=>?_
 cases fz e.Action with | false=>rfl | true=>?_
 cases dR e.Kind 1 4 with | false=>rfl | true=>?_
 cases dR e.Party 0 (au (len c.Parties - 1)) with | false=>rfl | true=>?_
 cases dR e.Other 0 (au (len c.Parties - 1)) with | false=>rfl | true=>?_
 cases (e.Party==e.Other) with | true=>rfl | false=>?_
 cases mY e.When with | false=>rfl | true=>?_
 cases dR e.Amount 0 1000000 with | false=>rfl | true=>?_
 cases dR e.Within 0 400 with | false=>rfl | true=>?_
 cases (bif e.Kind != 1 then (bif e.Amount != 0 then true else e.Within != 0) else false) with | true=>rfl | false=>?_
 cases (e.Repair==([]:ac))<;>rfl
theorem Ly (c:Contract)(i:Int)(e:Clause)(he:aN c.Clauses i=some e)(hs:gm e)(hl:c.Clauses.length≤1048576):Ji c i=some ((jh c.Clauses e.Id==i)&&jH c i e):=by
 unfold Ji jH
 rw[he,Option.bind_some,Uz c i e hl]
 simp only[oX _ hs.1,oX _ hs.2.2.2.1,jL,RB _ hs.2.2.2.2.2.2.1,Option.bind_some,fE,GN c _ hl,bne]
 cases fz e.Id with | false=>cases (jh c.Clauses e.Id==i)<;>rfl | true=>?_
 cases (jh c.Clauses e.Id==i) with | false=>rfl | true=>?_
 cases fz e.Action with | false=>rfl | true=>?_
 cases dR e.Kind 1 4 with | false=>rfl | true=>?_
 cases dR e.Party 0 (au (len c.Parties - 1)) with | false=>rfl | true=>?_
 cases dR e.Other 0 (au (len c.Parties - 1)) with | false=>rfl | true=>?_
 cases (e.Party==e.Other) with | true=>rfl | false=>?_
 cases mY e.When with | false=>rfl | true=>?_
 cases dR e.Amount 0 1000000 with | false=>rfl | true=>?_
 cases dR e.Within 0 400 with | false=>rfl | true=>?_
 cases (bif !(e.Kind==1) then (bif !(e.Amount==0) then true else !(e.Within==0)) else false) with | true=>rfl | false=>?_
 cases (e.Repair==([]:ac))<;>rfl
def rB (c:Contract)(i:Nat):Bool:=match c.Clauses[i]? with
 | some e=>(jh c.Clauses e.Id==(i:Int))&&jH c (i:Int) e
 | none=>true
def il (c:Contract):Bool:=!((List.range c.Clauses.length).any fun i=>!rB c i)
theorem qm {c:Contract}:il c=true↔∀(i:Nat) e,c.Clauses[i]?=some e→jh c.Clauses e.Id=(i:Int)∧jH c (i:Int) e=true:=by
 unfold il
 rw[Bool.not_eq_true',←Bool.not_eq_true,List.any_eq_true]
 constructor
 ·intro h i e he
  have hi:=(List.getElem?_eq_some_iff.1 he).1
  cases h1:rB c i with
  | false=>exact absurd ⟨i,List.mem_range.2 hi,by rw[h1];rfl⟩ h
  | true=>
   simp only[rB,he,Bool.and_eq_true,beq_iff_eq] at h1
   exact h1
 ·rintro h ⟨i,hi,h2⟩
  rw[List.mem_range] at hi
  have h1:=h i _ (List.getElem?_eq_getElem hi)
  simp only[rB,List.getElem?_eq_getElem hi,h1.1,h1.2,beq_self_eq_true,Bool.and_self,Bool.not_true] at h2
  cases h2
theorem Kx (c:Contract)(hc:eH c):kS c 0=some (bif il c then .inr () else .inl false):=by
 have hl:c.Clauses.length≤1048576:=hc.2.1
 have h:=tW (a:=List.range c.Clauses.length) (q:=fun i=>!rB c i) (y0:=(Sum.inl false:Bool⊕Unit)) (y1:=.inr ()) (L:=fun i=>kS c (i:Int))
  (fun i x hx=>by
   obtain⟨hi,hx'⟩:=List.getElem?_eq_some_iff.1 hx
   rw[List.getElem_range] at hx'
   subst hx'
   rw[List.length_range] at hi
   have he:=List.getElem?_eq_getElem hi
   have hg:aN c.Clauses (i:Int)=some c.Clauses[i]:=by rw[bD,he]
   show kS c (i:Int)=_
   rw[Dw,ko,bu,decide_eq_true hi,cond_true,hg,Option.bind_some,G5 c _ hl,Option.bind_some,LG c _ _ hg (hc.2.2 _ (List.getElem_mem hi)) hl,ca (by omega)]
   simp only[rB,he,bne]
   cases (jh c.Clauses c.Clauses[i].Id==(i:Int))<;>cases jH c (i:Int) c.Clauses[i]<;>rfl)
  (by
   rw[List.length_range]
   show kS c (c.Clauses.length:Int)=_
   rw[Dw,ko,bu,decide_eq_false (Nat.lt_irrefl _),cond_false])
 rw[show kS c 0=_ from h]
 unfold il
 cases (List.range c.Clauses.length).any fun i=>!rB c i<;>rfl
theorem J1 (c:Contract)(hc:eH c):mM c 0=some (bif il c then .inr () else .inl false):=by
 have hl:c.Clauses.length≤1048576:=hc.2.1
 have h:=tW (a:=List.range c.Clauses.length) (q:=fun i=>!rB c i) (y0:=(Sum.inl false:Bool⊕Unit)) (y1:=.inr ()) (L:=fun i=>mM c (i:Int))
  (fun i x hx=>by
   obtain⟨hi,hx'⟩:=List.getElem?_eq_some_iff.1 hx
   rw[List.getElem_range] at hx'
   subst hx'
   rw[List.length_range] at hi
   have he:=List.getElem?_eq_getElem hi
   have hg:aN c.Clauses (i:Int)=some c.Clauses[i]:=by rw[bD,he]
   show mM c (i:Int)=_
   rw[Ge,lM,bu,decide_eq_true hi,cond_true,Ly c _ _ hg (hc.2.2 _ (List.getElem_mem hi)) hl,Option.bind_some,ca (by omega)]
   simp only[rB,he])
  (by
   rw[List.length_range]
   show mM c (c.Clauses.length:Int)=_
   rw[Ge,lM,bu,decide_eq_false (Nat.lt_irrefl _),cond_false])
 rw[show mM c 0=_ from h]
 unfold il
 cases (List.range c.Clauses.length).any fun i=>!rB c i<;>rfl
def iQ (cs:List Clause):List ac:=cs.flatMap fun e=>e.Action::jz e.When
theorem ql {c:Contract}{i:Int}{e:Clause}(h:jH c i e=true):mY e.When=true:=by
 simp only[jH,Bool.and_eq_true] at h
 exact h.2.2.2.2.2.2.1
theorem ry (cs:List Clause)(i:Nat)(h:i<cs.length):iQ (cs.take (i+1))=iQ (cs.take i)++(cs[i].Action::jz cs[i].When):=by
 unfold iQ
 rw[List.take_add_one,List.getElem?_eq_getElem h,List.flatMap_append]
 simp
theorem AW (c:Contract)(hc:eH c)(h12:c.Clauses.length≤12)(hv:il c=true):∃r,pg c=some r∧ym c=some r∧r.Pairwise StrL.Lt∧(∀x,x∈r↔x∈iQ c.Clauses)∧r.length≤1000:=by
 have hcond:∀i (hi:i<c.Clauses.length),ez c.Clauses[i].When=true∧aW c.Clauses[i].When≤15:=fun i hi=>by
  have h1:=ql (qm.1 hv i _ (List.getElem?_eq_getElem hi)).2
  unfold mY at h1
  rw[Bool.and_eq_true,decide_eq_true_iff] at h1
  exact h1
 have hs:∃r,pg c=some r∧r.Pairwise StrL.Lt∧(∀x,x∈r↔x∈iQ c.Clauses)∧r.length≤16*c.Clauses.length:=by
  obtain⟨y,⟨r,rfl,hr⟩,h2⟩:=gi (L:=fun i (s:List ac)=>mr c ((i:Int),s)) c.Clauses.length
   (fun i s=>s.Pairwise StrL.Lt∧(∀x,x∈s↔x∈iQ (c.Clauses.take i))∧s.length≤16*i)
   (fun y=>∃r,y=.inr r∧r.Pairwise StrL.Lt∧(∀x,x∈r↔x∈iQ c.Clauses)∧r.length≤16*c.Clauses.length) (s:=[])
   (by
    rintro i s hi ⟨j1,j2,j3⟩
    have he:=List.getElem?_eq_getElem hi
    obtain⟨f1,f2⟩:=hcond i hi
    obtain⟨r1,e1,p1,m1,l1⟩:=StrL.put_val s c.Clauses[i].Action (by omega) j1
    obtain⟨r2,e2,p2,m2,l2⟩:=NZ _ f1 r1 (by omega) p1
    refine .inl ⟨r2,⟨p2,fun x=>?_,by omega⟩,?_⟩
    ·rw[m2,m1,j2,ry _ _ hi,List.mem_append,List.mem_cons,or_assoc]
    ·show mr c ((i:Int),s)=_
     rw[Dz,kq]
     simp only[bu,decide_eq_true hi,cond_true,bD,he,Option.bind_some,e1,e2]
     rw[ca (by omega)])
   (by
    rintro s ⟨j1,j2,j3⟩
    rw[List.take_length] at j2
    refine⟨.inr s,⟨s,rfl,j1,j2,j3⟩,?_⟩
    show mr c ((c.Clauses.length:Int),s)=_
    rw[Dz,kq]
    simp only[bu,decide_eq_false (Nat.lt_irrefl _),cond_false]) ⟨List.Pairwise.nil,fun x=>by simp[iQ],by simp⟩
  refine⟨r,?_,hr⟩
  unfold pg
  rw[show mr c (0,[])=some (.inr r) from h2]
  rfl
 obtain⟨r,e,p,m,l⟩:=hs
 refine⟨r,e,?_,p,m,by omega⟩
 obtain⟨y,h1,h2⟩:=gi (L:=fun i (s:List ac)=>oP c ((i:Int),s)) c.Clauses.length
  (fun i s=>s=iQ (c.Clauses.take i)∧s.length≤16*i) (fun y=>y=.inr (iQ c.Clauses)∧(iQ c.Clauses).length≤16*c.Clauses.length) (s:=[])
  (by
   rintro i s hi ⟨j1,j2⟩
   have he:=List.getElem?_eq_getElem hi
   obtain⟨f1,f2⟩:=hcond i hi
   have hlen:=EJ c.Clauses[i].When
   refine .inl ⟨iQ (c.Clauses.take (i+1)),⟨rfl,?_⟩,?_⟩
   ·rw[ry _ _ hi,←j1,List.length_append,List.length_cons];omega
   ·show oP c ((i:Int),s)=_
    rw[Gu,lO]
    simp only[bu,decide_eq_true hi,cond_true,bD,he,Option.bind_some]
    rw[nW (by omega) (by omega),Option.bind_some,NG _ _ (by rw[List.length_append,List.length_singleton];omega),Option.bind_some,ca (by omega),ry _ _ hi,←j1,List.append_assoc]
    try rfl)
  (by
   rintro s ⟨j1,j2⟩
   rw[List.take_length] at j1
   refine⟨_,⟨rfl,by rw[←j1];exact j2⟩,?_⟩
   show oP c ((c.Clauses.length:Int),s)=_
   rw[Gu,lO]
   simp only[bu,decide_eq_false (Nat.lt_irrefl _),cond_false]
   rw[j1]) ⟨by simp[iQ],by simp⟩
 unfold ym
 rw[show oP c (0,[])=some y from h2,h1.1,cM,Wf _ r (by omega) p m]
 rfl
noncomputable def iM (c:Contract):Bool:=(dR (len c.Clauses) 1 12&&pD c.Parties)&&(il c&&(match pg c with | some r=>decide (len r≤16) | none=>false))
theorem uT (c:Contract)(hc:eH c):Au c=some (iM c):=by
 unfold Au iM
 have hp:=UU c.Parties c.Clauses hc.1
 rw[lj,show vP c=_ from hp,Kx c hc,Option.bind_some]
 cases h1:dR (len c.Clauses) 1 12 with | false=>rfl | true=>?_
 cases pD c.Parties with | false=>rfl | true=>?_
 cases h2:il c with | false=>rfl | true=>?_
 rw[mF] at h1
 obtain⟨r,e,_⟩:=AW c hc (by simp only[len] at h1;omega) h2
 rw[e]
 rfl
theorem uO (c:Contract)(hc:eH c):Ii c=some (iM c):=by
 unfold Ii iM
 rw[Uy c.Parties hc.1,J1 c hc,Option.bind_some,jL]
 cases h1:dR (len c.Clauses) 1 12 with | false=>cases pD c.Parties<;>rfl | true=>?_
 cases pD c.Parties with | false=>rfl | true=>?_
 cases h2:il c with | false=>rfl | true=>?_
 rw[mF] at h1
 obtain⟨r,e,e2,_⟩:=AW c hc (by simp only[len] at h1;omega) h2
 rw[e,e2]
 rfl
theorem kA {c:Contract}(h:iM c=true):1≤c.Clauses.length∧c.Clauses.length≤12∧pD c.Parties=true∧∀(i:Nat) e,c.Clauses[i]?=some e→jh c.Clauses e.Id=(i:Int)∧jH c (i:Int) e=true:=by
 simp only[iM,Bool.and_eq_true,mF] at h
 obtain⟨⟨⟨h1,h2⟩,h3⟩,h4,_⟩:=h
 simp only[len] at h1 h2
 exact⟨by omega,by omega,h3,qm.1 h4⟩
theorem Es {α:Type}{L:Int→Option (Int⊕Unit)}{a:List α}{q:α→Bool}(h:L 0=some (match a.findIdx? q with | some i=>.inl (i:Int) | none=>.inr ())):((aX (ρ:=Int) (L 0) fun _:Unit=>some (-1)).bind fun r=>some (decide (r≥0)))=some (a.any q):=by
 rw[h]
 cases h1:a.findIdx? q with
 | none=>
  have:a.any q=false:=by
   rw[List.findIdx?_eq_none_iff] at h1
   rw[List.any_eq_false]
   intro x hx
   rw[h1 x hx]
   exact Bool.false_ne_true
  rw[this]
  rfl
 | some i=>
  have:a.any q=true:=by
   rw[List.findIdx?_eq_some_iff_getElem] at h1
   obtain⟨hi,he,_⟩:=h1
   rw[List.any_eq_true]
   exact⟨_,List.getElem_mem hi,he⟩
  rw[this]
  simp
def tc (l:List ac)(k:Nat):Bool:=match l[k]? with
 | some e=>fz e&&(match k with
  | 0=>true
  | j+1=>match l[j]? with
   | some p=>Op.bytesLess p e
   | none=>true)
 | none=>true
def ng (l:List ac):Bool:=decide (l.length≤16) && !((List.range l.length).any fun k=>!tc l k)
theorem Y5 (a b:ac):(Op.bytesLess b a||b==a)=!Op.bytesLess a b:=by
 rcases StrL.tri a b with h | h | h
 ·have h2:Op.bytesLess b a=false:=Bool.eq_false_iff.2 fun h3=>StrL.Lt.asymm h h3
  have h3:(b==a)=false:=beq_eq_false_iff_ne.2 fun e=>StrL.Lt.ne h e.symm
  rw[h2,h3,show Op.bytesLess a b=true from h];rfl
 ·subst h
  rw[StrL.lt_irrefl,beq_self_eq_true];rfl
 ·have h2:Op.bytesLess a b=false:=Bool.eq_false_iff.2 fun h3=>StrL.Lt.asymm h h3
  rw[h2,show Op.bytesLess b a=true from h];rfl
theorem uU (l:List ac)(hl:hC mK l)(k:Nat)(hk:k<l.length)(hk16:k≤16):hJ l (k:Int)=bif !tc l k then some (.inl false) else hJ l ((k+1:Nat):Int):=by
 have he:=List.getElem?_eq_getElem hk
 have hlen:l.length≤1048576:=hl.1
 rw[tF,i7,bu,decide_eq_true hk,cond_true,decide_eq_true (by omega),fE,cond_true,bD,he,Option.bind_some,pd _ (hl.2 _ (List.getElem_mem hk)),Option.bind_some,ca (by omega)]
 cases k with
 | zero=>
  simp only[tc,he]
  cases fz l[0]<;>rfl
 | succ j=>
  have hj:j<l.length:=by omega
  rw[decide_eq_true (by omega),cond_true,show au (((j+1:Nat):Int) - 1)=(j:Int) by rw[jC (by omega) (by omega)];omega,bD,List.getElem?_eq_getElem hj,Option.bind_some]
  simp only[tc,he,List.getElem?_eq_getElem hj,Option.bind_some]
  cases fz l[j+1]<;>cases Op.bytesLess l[j] l[j+1]<;>rfl
theorem G9 (l:List ac)(hl:hC mK l)(k:Nat)(hk:k<l.length):mT l (k:Int)=bif !tc l k then some (.inl false) else mT l ((k+1:Nat):Int):=by
 have he:=List.getElem?_eq_getElem hk
 have hlen:l.length≤1048576:=hl.1
 rw[Gv,lP,bu,decide_eq_true hk,cond_true,bD,he,Option.bind_some,oX _ (hl.2 _ (List.getElem_mem hk)),Option.bind_some,ca (by omega)]
 cases k with
 | zero=>
  simp only[tc,he]
  cases fz l[0]<;>rfl
 | succ j=>
  have hj:j<l.length:=by omega
  rw[decide_eq_true (by omega),cond_true,show au (((j+1:Nat):Int) - 1)=(j:Int) by rw[jC (by omega) (by omega)];omega,bD,List.getElem?_eq_getElem hj,Option.bind_some,Y5]
  simp only[tc,he,List.getElem?_eq_getElem hj]
  cases fz l[j+1]<;>cases Op.bytesLess l[j] l[j+1]<;>rfl
theorem o9 {L:Nat→Option (Bool⊕Unit)}{n:Nat}{q:Nat→Bool}(hs:∀k,k<n→L k=bif q k then some (.inl false) else L (k+1))(he:L n=some (.inr ())):L 0=some (if (List.range n).any q then .inl false else .inr ()):=by
 refine tW (a:=List.range n) (q:=q) (y0:=(Sum.inl false:Bool⊕Unit)) (y1:=.inr ()) (L:=L) (fun i x hx=>?_) (by rw[List.length_range];exact he)
 obtain⟨hi,hx'⟩:=List.getElem?_eq_some_iff.1 hx
 rw[List.getElem_range] at hx'
 subst hx'
 rw[List.length_range] at hi
 exact hs i hi
theorem NE (l:List ac)(hl:hC mK l):Jo l=some (ng l):=by
 have hlen:l.length≤1048576:=hl.1
 have h:=o9 (L:=fun k=>mT l (k:Int)) (n:=l.length) (q:=fun k=>!tc l k) (fun k hk=>G9 l hl k hk) (by
  show mT l (l.length:Int)=_
  rw[Gv,lP,bu,decide_eq_false (Nat.lt_irrefl _),cond_false])
 unfold Jo
 rw[show mT l 0=_ from h]
 unfold ng
 have h16:decide (len l≤16)=decide (l.length≤16):=by
  have:(len l≤16)↔l.length≤16:=by unfold len;omega
  simp only[this]
 cases (List.range l.length).any fun k=>!tc l k<;>simp[h16]
theorem NW (l:List ac)(hl:hC mK l):Ac l=some (ng l):=by
 have hlen:l.length≤1048576:=hl.1
 have h16:decide (len l≤16)=decide (l.length≤16):=by
  have:(len l≤16)↔l.length≤16:=by unfold len;omega
  simp only[this]
 unfold Ac
 by_cases hm:l.length≤16
 ·have h:=o9 (L:=fun k=>hJ l (k:Int)) (n:=l.length) (q:=fun k=>!tc l k) (fun k hk=>uU l hl k hk (by omega)) (by
   show hJ l (l.length:Int)=_
   rw[tF,i7,bu,decide_eq_false (Nat.lt_irrefl _),cond_false,fE,cond_false])
  rw[show hJ l 0=_ from h]
  unfold ng
  cases (List.range l.length).any fun k=>!tc l k<;>simp[h16]
 ·have h:=o9 (L:=fun k=>hJ l (k:Int)) (n:=17) (q:=fun k=>!tc l k) (fun k hk=>uU l hl k (by omega) (by omega)) (by
   show hJ l ((17:Nat):Int)=_
   rw[tF,i7,bu]
   by_cases h17:17<l.length
   ·rw[decide_eq_true h17];rfl
   ·rw[decide_eq_false h17];rfl)
  rw[show hJ l 0=_ from h]
  unfold ng
  rw[h16,decide_eq_false hm]
  cases (List.range 17).any fun k=>!tc l k<;>rfl
def wd (c:Contract)(i:ac):Bool:=c.Clauses.any fun x=>x.Repair==i
theorem UT (c:Contract)(i:Int)(e:Clause)(he:aN c.Clauses i=some e)(hl:c.Clauses.length≤1048576):Aq c i=some (wd c e.Id):=by
 unfold Aq
 rw[wX (L:=sD c i) (a:=c.Clauses) (p:=fun x=>some (x.Repair==e.Id)) (q:=fun x=>x.Repair==e.Id) (r:=true) (fun _ _=>rfl) (fun x=>by rw[MW,mp];simp only[he,Option.bind_some]) (by omega)]
 unfold wd
 cases c.Clauses.any fun x=>x.Repair==e.Id<;>rfl
theorem Ux (c:Contract)(i:Int)(e:Clause)(he:aN c.Clauses i=some e)(hl:c.Clauses.length≤1048576):Jl c i=some (wd c e.Id):=by
 unfold Jl Fi Fn
 rw[Es (mE (L:=sa c.Clauses (c,i)) (a:=c.Clauses) (p:=fun x=>Jm x c i) (q:=fun x=>x.Repair==e.Id) (fun x _=>by rw[Jm,he];rfl) (fun x=>by rw[MO,me]) (by omega))]
 rfl
theorem US (s:State)(i:Int)(hl:s.Duties.length≤1048576):Ay s i=some ((s.Duties.countP (fun d=>d.Clause==i):Nat):Int):=by
 unfold Ay
 obtain⟨y,rfl,h⟩:=gi (L:=fun k (n:Int)=>kT s i (n,(k:Int))) s.Duties.length (fun k n=>n=(((s.Duties.take k).countP (fun d=>d.Clause==i):Nat):Int)) (fun y=>y=.inr ((s.Duties.countP (fun d=>d.Clause==i):Nat):Int)) (s:=0)
  (by
   rintro k n hk rfl
   have hx:=List.getElem?_eq_getElem hk
   refine .inl ⟨_,rfl,?_⟩
   show kT s i (_,(k:Int))=kT s i (_,((k+1:Nat):Int))
   rw[DH,ks]
   simp only[bu,decide_eq_true hk,cond_true,bD,hx,Option.bind_some,fE]
   rw[show au ((k:Int)+1)=((k+1:Nat):Int) from ca (by omega)]
   have h1:(s.Duties.take (k+1)).countP (fun d=>d.Clause==i)=(s.Duties.take k).countP (fun d=>d.Clause==i)+if (s.Duties[k].Clause==i)=true then 1 else 0:=by
    rw[List.take_add_one,hx,List.countP_append,Option.toList_some,List.countP_singleton]
   have h2:=List.countP_le_length (l:=s.Duties.take k) (p:=fun d=>d.Clause==i)
   rw[List.length_take] at h2
   rw[h1]
   cases h3:s.Duties[k].Clause==i with
   | false=>simp
   | true=>rw[cond_true,jC (by omega) (by omega)];simp)
  (by
   rintro n rfl
   refine⟨_,rfl,?_⟩
   show kT s i (_,(s.Duties.length:Int))=_
   rw[DH,ks]
   simp only[bu,decide_eq_false (Nat.lt_irrefl _),cond_false,List.take_length]) (by simp)
 rw[show kT s i (0,0)=_ from h]
 rfl
theorem RG {α:Type}(l:List α)(i:Int)(hl:l.length≤1048576):dR i 0 (au (len l - 1))=(aN l i).isSome:=by
 unfold len
 rw[jC (by omega) (by omega)]
 unfold dR aN
 by_cases h0:0≤i
 ·rw[if_pos h0,decide_eq_true h0,Bool.true_and]
  by_cases h1:i≤(l.length:Int) - 1
  ·rw[decide_eq_true h1,List.getElem?_eq_getElem (by omega)];rfl
  ·rw[decide_eq_false h1,List.getElem?_eq_none (by omega)];rfl
 ·rw[if_neg h0,decide_eq_false h0];rfl
def pE (D:List Duty)(k:Nat)(d:Duty):Bool:=match k with
 | 0=>false
 | j+1=>match D[j]? with
  | some p=>decide (p.Since>d.Since)
  | none=>false
def lL (s:State)(d:Duty):Bool:=bif d.Status==1 then (decide (d.Due≥s.Day) && !s.Over) else bif d.Status==2 then true else bif d.Status==3 then decide (d.Due<s.Day) else bif d.Status==4 then s.Over else false
def YX (s:State)(d:Duty)(e:Clause):Bool:=(e.Kind==1)&&(dR d.Since 0 s.Day&&((d.Due==au (d.Since+e.Within))&&dR d.Due 0 36524))
def wY (c:Contract)(s:State)(k:Nat)(d:Duty):Bool:=match aN c.Clauses d.Clause with
 | some e=>YX s d e&&(!pE s.Duties k d&&lL s d)
 | none=>false
def uc (c:Contract)(i:Int):Bool:=match aN c.Clauses i with
 | some e=>wd c e.Id
 | none=>false
theorem aah {s:State}{d:Duty}(h:lL s d=true):dR d.Status 1 4=true:=by
 unfold lL at h
 rw[mF]
 cases h1:d.Status==1 with
 | true=>have:=eq_of_beq h1;omega
 | false=>
  cases h2:d.Status==2 with
  | true=>have:=eq_of_beq h2;omega
  | false=>
   cases h3:d.Status==3 with
   | true=>have:=eq_of_beq h3;omega
   | false=>
    cases h4:d.Status==4 with
    | true=>have:=eq_of_beq h4;omega
    | false=>rw[h1,h2,h3,h4] at h;cases h
theorem Zf (s:State)(d:Duty)(h:dR d.Status 1 4=true):(bif d.Status==1 then (bif decide (d.Due<s.Day) then true else (bif s.Over then true else (bif d.Status==3 then (bif decide (d.Due≥s.Day) then true else (bif d.Status==4 then !s.Over else false)) else (bif d.Status==4 then !s.Over else false)))) else (bif d.Status==3 then (bif decide (d.Due≥s.Day) then true else (bif d.Status==4 then !s.Over else false)) else (bif d.Status==4 then !s.Over else false)))=!lL s d:=by
 rw[mF] at h
 unfold lL
 have hd:decide (d.Due≥s.Day)=!decide (d.Due<s.Day):=by
  by_cases h2:d.Due<s.Day
  ·rw[decide_eq_true h2,decide_eq_false (by omega)];rfl
  ·rw[decide_eq_false h2,decide_eq_true (by omega)];rfl
 rw[hd]
 generalize decide (d.Due<s.Day)=x
 have h4:d.Status=1∨d.Status=2∨d.Status=3∨d.Status=4:=by omega
 rcases h4 with h4 | h4 | h4 | h4<;>rw[h4]<;>cases x<;>cases s.Over<;>rfl
theorem Sa (c:Contract)(s:State)(k:Nat)(hk:k<s.Duties.length)(hl:s.Duties.length≤1048576)(hc:c.Clauses.length≤1048576) :
  AB c s (k:Int)=some (wY c s k s.Duties[k]&&(uc c s.Duties[k].Clause||s.Duties.countP (fun d=>d.Clause==s.Duties[k].Clause)==1)):=by
 have he:=List.getElem?_eq_getElem hk
 unfold AB
 rw[bD,he,Option.bind_some]
 have hp:∀(f:Bool→Option (Bool⊕Bool)) (g:Duty→Option (Bool⊕Bool)) ,(∀p,g p=f (decide (p.Since>s.Duties[k].Since)))→(bif decide ((k:Int)>0) then ((aN s.Duties (au ((k:Int) - 1))).bind g) else f false)=f (pE s.Duties k s.Duties[k]):=by
  intro f g hg
  cases k with
  | zero=>rfl
  | succ j=>
   have hj:j<s.Duties.length:=by omega
   rw[decide_eq_true (by omega),cond_true,show au (((j+1:Nat):Int) - 1)=(j:Int) by rw[jC (by omega) (by omega)];omega,bD,List.getElem?_eq_getElem hj,Option.bind_some,hg]
   simp only[pE,List.getElem?_eq_getElem hj]
 generalize s.Duties[k]=d at *
 rw[lj,Option.bind_some,RG _ _ hc]
 unfold wY
 cases hg:aN c.Clauses d.Clause with
 | none=>rfl
 | some e=>
  rw[Option.isSome_some]
  simp only[Bool.not_true,cond_false,Option.bind_some,lj,nP]
  unfold YX
  cases h1:e.Kind==1 with
  | false=>rw[bne,h1];rfl
  | true=>
   rw[bne,h1]
   cases h2:dR d.Since 0 s.Day with
   | false=>rfl
   | true=>
    cases h3:d.Due==au (d.Since+e.Within) with
    | false=>rw[bne,h3];rfl
    | true=>
     rw[bne,h3]
     cases h4:dR d.Due 0 36524 with
     | false=>rfl
     | true=>
      cases h5:dR d.Status 1 4 with
      | false=>
       have:lL s d=false:=Bool.eq_false_iff.2 fun h=>by rw[aah h] at h5;cases h5
       rw[this]
       simp
      | true=>
       simp only[Bool.not_true,cond_false,eR,cM,fE,Zf s d h5]
       rw[show (bif decide ((k:Int)>0) then (aN s.Duties (au ((k:Int) - 1))).bind (fun e11=>(some (.inr (bif decide (e11.Since>d.Since) then true else !lL s d)):Option (Bool⊕Bool))) else some (.inr (!lL s d)))=some (.inr (bif pE s.Duties k d then true else !lL s d)) from hp (fun b=>some (.inr (bif b then true else !lL s d))) _ (fun p=>rfl)]
       rw[cM]
       rw[show uc c d.Clause=wd c e.Id by unfold uc;rw[hg],UT c _ e hg hc,US s _ hl]
       have hcn:∀n:Nat,((n:Int)==1)=(n==1):=fun n=>by
        by_cases h:n=1
        ·subst h;rfl
        ·rw[beq_eq_false_iff_ne.2 h,beq_eq_false_iff_ne.2 (by omega)]
       simp only[Option.bind_some,hcn]
       generalize (List.countP (fun d_1=>d_1.Clause==d.Clause) s.Duties==1)=z
       cases pE s.Duties k d<;>cases lL s d<;>cases wd c e.Id<;>cases z<;>rfl
def qQ (D:List Duty)(k:Nat)(i:Int):Bool:=(D.take k).any fun o=>o.Clause==i
theorem RD (c:Contract)(s:State)(k:Nat)(hk:k<s.Duties.length)(hl:s.Duties.length≤1048576)(hc:c.Clauses.length≤1048576) :
  Jn c s (k:Int)=some (wY c s k s.Duties[k]&&(uc c s.Duties[k].Clause || !qQ s.Duties k s.Duties[k].Clause)):=by
 have he:=List.getElem?_eq_getElem hk
 unfold Jn
 rw[bD,he,Option.bind_some]
 have hp:∀(f:Bool→Option (Bool⊕Bool)) (g:Duty→Option (Bool⊕Bool)) ,(∀p,g p=f (decide (p.Since>s.Duties[k].Since)))→(bif decide ((k:Int)>0) then ((aN s.Duties (au ((k:Int) - 1))).bind g) else f false)=f (pE s.Duties k s.Duties[k]):=by
  intro f g hg
  cases k with
  | zero=>rfl
  | succ j=>
   have hj:j<s.Duties.length:=by omega
   rw[decide_eq_true (by omega),cond_true,show au (((j+1:Nat):Int) - 1)=(j:Int) by rw[jC (by omega) (by omega)];omega,bD,List.getElem?_eq_getElem hj,Option.bind_some,hg]
   simp only[pE,List.getElem?_eq_getElem hj]
 generalize s.Duties[k]=d at *
 rw[jL,Option.bind_some,RG _ _ hc]
 unfold wY
 cases hg:aN c.Clauses d.Clause with
 | none=>rfl
 | some e=>
  rw[Option.isSome_some]
  simp only[Bool.not_true,cond_false,Option.bind_some,jL,my]
  unfold YX
  cases h1:e.Kind==1 with
  | false=>rw[bne,h1];rfl
  | true=>
   rw[bne,h1]
   cases h2:dR d.Since 0 s.Day with
   | false=>rfl
   | true=>
    cases h3:d.Due==au (d.Since+e.Within) with
    | false=>rw[bne,h3];rfl
    | true=>
     rw[bne,h3]
     cases h4:dR d.Due 0 36524 with
     | false=>rfl
     | true=>
      simp only[Bool.not_true,cond_false,eR,cM]
      rw[show (bif decide ((k:Int)>0) then (aN s.Duties (au ((k:Int) - 1))).bind (fun e17=>(some (.inr (decide (d.Since<e17.Since))):Option (Bool⊕Bool))) else some (.inr false))=some (.inr (pE s.Duties k d)) from hp (fun b=>some (.inr b)) _ (fun p=>rfl)]
      simp only[eR,cM]
      cases pE s.Duties k d with
      | true=>rfl
      | false=>
       rw[cond_false,Ux c _ e hg hc,Option.bind_some,A9 (by omega),Option.bind_some]
       unfold Fj Fo
       rw[Es (mE (L:=sb (s.Duties.take k) d) (a:=s.Duties.take k) (p:=fun x=>LZ x d) (q:=fun o=>o.Clause==d.Clause) (fun x _=>rfl) (fun x=>by rw[MP,mf]) (by rw[List.length_take];omega))]
       rw[show uc c d.Clause=wd c e.Id by unfold uc;rw[hg]]
       unfold qQ lL
       cases wd c e.Id<;>cases ((s.Duties.take k).any fun o=>o.Clause==d.Clause)<;>cases (d.Status==1)<;>cases (d.Status==2)<;>cases (d.Status==3)<;>cases (d.Status==4)<;>cases s.Over<;>cases decide (d.Due≥s.Day)<;>cases decide (d.Due<s.Day)<;>rfl
def pI (c:Contract)(s:State)(k:Nat):Bool:=match s.Duties[k]? with
 | some d=>wY c s k d&&(uc c d.Clause||s.Duties.countP (fun o=>o.Clause==d.Clause)==1)
 | none=>true
def py (c:Contract)(s:State)(k:Nat):Bool:=match s.Duties[k]? with
 | some d=>wY c s k d&&(uc c d.Clause || !qQ s.Duties k d.Clause)
 | none=>true
theorem GE (D:List Duty)(k:Nat)(hk:k<D.length)(p:Duty→Bool):D.countP p=(D.take k).countP p+((if p D[k]=true then 1 else 0)+(D.drop (k+1)).countP p):=by
 conv=>lhs;rw[←List.take_append_drop k D,List.drop_eq_getElem_cons hk]
 rw[List.countP_append,List.countP_cons]
 omega
theorem Rp (c:Contract)(s:State):((List.range s.Duties.length).any fun k=>!pI c s k)=((List.range s.Duties.length).any fun k=>!py c s k):=by
 have key:(∀k,k<s.Duties.length→pI c s k=true)↔(∀k,k<s.Duties.length→py c s k=true):=by
  constructor
  ·intro h k hk
   have h1:=h k hk
   unfold pI at h1
   unfold py
   rw[List.getElem?_eq_getElem hk] at h1 ⊢
   simp only[Bool.and_eq_true,Bool.or_eq_true,beq_iff_eq] at h1 ⊢
   refine⟨h1.1,h1.2.imp id fun h2=>?_⟩
   have h3:=GE s.Duties k hk (fun o=>o.Clause==s.Duties[k].Clause)
   rw[if_pos (by simp),h2] at h3
   have h4:(s.Duties.take k).countP (fun o=>o.Clause==s.Duties[k].Clause)=0:=by omega
   rw[List.countP_eq_zero] at h4
   rw[Bool.not_eq_true',qQ,List.any_eq_false]
   exact h4
  ·intro h k hk
   have h1:=h k hk
   unfold py at h1
   unfold pI
   rw[List.getElem?_eq_getElem hk] at h1 ⊢
   simp only[Bool.and_eq_true,Bool.or_eq_true,beq_iff_eq] at h1 ⊢
   refine⟨h1.1,?_⟩
   cases hd:uc c s.Duties[k].Clause with
   | true=>exact .inl rfl
   | false=>
    refine .inr ?_
    have h2:qQ s.Duties k s.Duties[k].Clause=false:=by
     rcases h1.2 with h2 | h2
     ·rw[hd] at h2;cases h2
     ·simpa using h2
    rw[GE s.Duties k hk (fun o=>o.Clause==s.Duties[k].Clause),if_pos (by simp)]
    have e1:(s.Duties.take k).countP (fun o=>o.Clause==s.Duties[k].Clause)=0:=by
     rw[List.countP_eq_zero]
     rw[qQ,List.any_eq_false] at h2
     exact h2
    have e2:(s.Duties.drop (k+1)).countP (fun o=>o.Clause==s.Duties[k].Clause)=0:=by
     rw[List.countP_eq_zero]
     intro x hx hq
     obtain⟨j,hj,rfl⟩:=List.mem_iff_getElem.1 hx
     rw[List.length_drop] at hj
     rw[List.getElem_drop] at hq
     have h5:=h (k+1+j) (by omega)
     unfold py at h5
     rw[List.getElem?_eq_getElem (by omega)] at h5
     simp only[Bool.and_eq_true,Bool.or_eq_true] at h5
     rw[beq_iff_eq] at hq
     rw[hq,hd] at h5
     have h6:qQ s.Duties (k+1+j) s.Duties[k].Clause=true:=by
      rw[qQ,List.any_eq_true]
      refine⟨s.Duties[k],?_,by simp⟩
      rw[List.mem_iff_getElem]
      exact⟨k,by rw[List.length_take];omega,by rw[List.getElem_take]⟩
     rw[h6] at h5
     simp at h5
    omega
 rw[Bool.eq_iff_iff,List.any_eq_true,List.any_eq_true]
 have k2:=not_congr key
 simp only[Classical.not_forall] at k2
 simp only[List.mem_range,Bool.not_eq_true']
 constructor
 ·rintro⟨k,hk,hq⟩
  obtain⟨j,hj,hq2⟩:=k2.1 ⟨k,hk,by simp[hq]⟩
  exact⟨j,hj,by simpa using hq2⟩
 ·rintro⟨k,hk,hq⟩
  obtain⟨j,hj,hq2⟩:=k2.2 ⟨k,hk,by simp[hq]⟩
  exact⟨j,hj,by simpa using hq2⟩
def tV (x:Int):Bool:=dR x (-1000000000) 1000000000
theorem Zh (l:List Int)(hl:l.length≤1048576):∃v,tE l=some v∧Gz l=some v:=by
 have h:∃v,jE l (0,0)=some (.inr v):=by
  obtain⟨y,⟨v,rfl⟩,h⟩:=gi (L:=fun k (n:Int)=>jE l (n,(k:Int))) l.length (fun k n=>True) (fun y=>∃v,y=.inr v) (s:=0)
   (by
    intro k n hk _
    refine .inl ⟨au (n+l[k]),trivial,?_⟩
    show jE l (_,(k:Int))=jE l (_,((k+1:Nat):Int))
    rw[CZ,kg]
    simp only[bu,decide_eq_true hk,cond_true,bD,List.getElem?_eq_getElem hk,Option.bind_some]
    rw[show au ((k:Int)+1)=((k+1:Nat):Int) from ca (by omega)])
   (by
    intro n _
    refine⟨.inr n,⟨n,rfl⟩,?_⟩
    show jE l (_,(l.length:Int))=_
    rw[CZ,kg]
    simp only[bu,decide_eq_false (Nat.lt_irrefl _),cond_false]) trivial
  exact⟨v,h⟩
 obtain⟨v,h⟩:=h
 refine⟨v,?_,?_⟩
 ·unfold tE;rw[h];rfl
 ·unfold Gz;rw[show Jv l (0,0)=jE l (0,0) from rfl,h];rfl
structure StF (c:Contract) (s:State) (names:List ac):Prop where
 day:dR s.Day 0 36524=true
 facts:ng s.Facts=true
 sub:s.Facts.all (fun f=>names.contains f)=true
 dl:s.Duties.length≤24
 bl:s.Balances.length=c.Parties.length
 dut:∀k,k<s.Duties.length→pI c s k=true
 amt:s.Balances.all tV=true
 sum:tE s.Balances=some 0
noncomputable def wE (c:Contract)(s:State)(names:List ac)(v:Int):Bool:=
 dR s.Day 0 36524&&(ng s.Facts&&(decide (s.Duties.length≤24)&&((s.Balances.length==c.Parties.length)&&(s.Facts.all (fun f=>names.contains f)&&(!((List.range s.Duties.length).any fun k=>!pI c s k)&&(s.Balances.all tV&&v==0))))))
theorem N0 (c:Contract)(s:State)(hc:eH c)(hs:lX s)(hb:iM c=true){names:List ac}(hn:pg c=some names)(hnl:names.length≤1048576){v:Int}(hv:tE s.Balances=some v):tM c s=some (wE c s names v):=by
 have hdl:s.Duties.length≤1048576:=hs.2.2.1.1
 have hbl:s.Balances.length≤1048576:=hs.2.2.2.1.1
 have hfl:s.Facts.length≤1048576:=hs.2.1.1
 have hcl:c.Clauses.length≤1048576:=hc.2.1
 unfold tM wE
 rw[uT c hc,Option.bind_some,hb]
 simp only[Bool.not_true,cond_false]
 rw[show nP s.Day=some (dR s.Day 0 36524) by unfold nP;rw[lj];rfl,Option.bind_some]
 cases dR s.Day 0 36524 with
 | false=>rfl
 | true=>
  simp only[Bool.not_true,cond_false]
  rw[NW _ hs.2.1,Option.bind_some]
  cases ng s.Facts with
  | false=>rfl
  | true=>
   simp only[Bool.not_true,cond_false,fE]
   have h24:decide (len s.Duties>24)=!decide (s.Duties.length≤24):=by
    by_cases h:s.Duties.length≤24
    ·rw[decide_eq_true h,decide_eq_false (by unfold len;omega)];rfl
    ·rw[decide_eq_false h,decide_eq_true (by unfold len;omega)];rfl
   rw[h24]
   cases decide (s.Duties.length≤24) with
   | false=>rfl
   | true=>
    have hbe:(len s.Balances != len c.Parties)=!(s.Balances.length==c.Parties.length):=by
     unfold len
     by_cases h:s.Balances.length=c.Parties.length
     ·rw[h,bne,beq_self_eq_true,beq_self_eq_true]
     ·rw[bne,beq_eq_false_iff_ne.2 h,beq_eq_false_iff_ne.2 (by omega)]
    simp only[Bool.not_true,cond_false]
    rw[hbe]
    cases s.Balances.length==c.Parties.length with
    | false=>rfl
    | true=>
     simp only[Bool.not_true,cond_false,eR,cM]
     rw[hn,Option.bind_some]
     rw[FT (L:=sI c s names) (a:=s.Facts) (f:=fun e=>tG names e) (p:=fun f=>names.contains f) (fun x _=>Me names x hnl) (fun x=>by rw[MY,mt]) (by omega)]
     cases s.Facts.all (fun f=>names.contains f) with
     | false=>rfl
     | true=>
      rw[if_pos rfl,cM]
      have h:=o9 (L:=fun k=>mu c s (k:Int)) (n:=s.Duties.length) (q:=fun k=>!pI c s k) (fun k hk=>by
       show mu c s (k:Int)=_
       rw[DM,kt,bu,decide_eq_true hk,cond_true,Sa c s k hk hdl hcl,Option.bind_some,ca (by omega)]
       unfold pI
       rw[List.getElem?_eq_getElem hk]) (by
       show mu c s (s.Duties.length:Int)=_
       rw[DM,kt,bu,decide_eq_false (Nat.lt_irrefl _),cond_false])
      rw[show mu c s 0=_ from h]
      cases (List.range s.Duties.length).any fun k=>!pI c s k with
      | true=>rfl
      | false=>
       rw[if_neg Bool.false_ne_true,cM]
       rw[FT (L:=sJ c s) (a:=s.Balances) (f:=zY) (p:=tV) (fun x _=>by unfold zY;rw[lj];rfl) (fun x=>by rw[MZ,mw]) (by omega)]
       cases s.Balances.all tV with
       | false=>rfl
       | true=>
        rw[if_pos rfl,cM,hv]
        rfl
theorem NH (c:Contract)(s:State)(hc:eH c)(hs:lX s){names:List ac}(hn:ym c=some names)(hnl:names.length≤1048576){v:Int}(hv:Gz s.Balances=some v):Jp c s=some (wE c s names v):=by
 have hdl:s.Duties.length≤1048576:=hs.2.2.1.1
 have hbl:s.Balances.length≤1048576:=hs.2.2.2.1.1
 have hfl:s.Facts.length≤1048576:=hs.2.1.1
 have hcl:c.Clauses.length≤1048576:=hc.2.1
 unfold Jp wE
 rw[hn,Option.bind_some]
 rw[show my s.Day=some (dR s.Day 0 36524) by unfold my;rw[jL];rfl,Option.bind_some]
 cases dR s.Day 0 36524 with
 | false=>rfl
 | true=>
  simp only[Bool.not_true,cond_false]
  rw[NE _ hs.2.1,Option.bind_some]
  cases ng s.Facts with
  | false=>rfl
  | true=>
   simp only[Bool.not_true,cond_false]
   unfold Fl Fq
   rw[Es (mE (L:=se s.Facts names) (a:=s.Facts) (p:=fun x=>Jq x names) (q:=fun f=>!names.contains f) (fun x _=>by rw[Jq,wc names x hnl];rfl) (fun x=>by rw[MR,mh]) (by omega))]
   have ha:(s.Facts.any fun f=>!names.contains f)=!(s.Facts.all fun f=>names.contains f):=by rw[List.not_all_eq_any_not]
   rw[ha,Option.bind_some]
   have h24:decide (len s.Duties>24)=!decide (s.Duties.length≤24):=by
    by_cases h:s.Duties.length≤24
    ·rw[decide_eq_true h,decide_eq_false (by unfold len;omega)];rfl
    ·rw[decide_eq_false h,decide_eq_true (by unfold len;omega)];rfl
   have hbe:(len s.Balances != len c.Parties)=!(s.Balances.length==c.Parties.length):=by
    unfold len
    by_cases h:s.Balances.length=c.Parties.length
    ·rw[h,bne,beq_self_eq_true,beq_self_eq_true]
    ·rw[bne,beq_eq_false_iff_ne.2 h,beq_eq_false_iff_ne.2 (by omega)]
   rw[h24,hbe]
   cases s.Facts.all (fun f=>names.contains f) with
   | false=>cases decide (s.Duties.length≤24)<;>cases s.Balances.length==c.Parties.length<;>rfl
   | true=>
    simp only[Bool.not_true,eR,cM,cond_false]
    cases decide (s.Duties.length≤24) with
    | false=>rfl
    | true=>
     cases s.Balances.length==c.Parties.length with
     | false=>rfl
     | true=>
      simp only[Bool.not_true,cond_false,eR,cM,hv,Option.bind_some]
      have h:=o9 (L:=fun k=>oQ c s (k:Int)) (n:=s.Duties.length) (q:=fun k=>!py c s k) (fun k hk=>by
       show oQ c s (k:Int)=_
       rw[Gw,lQ,bu,decide_eq_true hk,cond_true,RD c s k hk hdl hcl,Option.bind_some,ca (by omega)]
       unfold py
       rw[List.getElem?_eq_getElem hk]) (by
       show oQ c s (s.Duties.length:Int)=_
       rw[Gw,lQ,bu,decide_eq_false (Nat.lt_irrefl _),cond_false])
      rw[show oQ c s 0=_ from h,Rp]
      unfold Fk Fp
      rw[Es (mE (L:=sd s.Balances ()) (a:=s.Balances) (p:=fun x=>Jr x) (q:=fun b=>!tV b) (fun x _=>by rw[Jr,LY,jL];rfl) (fun x=>by rw[MQ,mg]) (by omega))]
      have hb2:(s.Balances.any fun b=>!tV b)=!(s.Balances.all tV):=by rw[List.not_all_eq_any_not]
      rw[hb2]
      cases hv0:v==0 with
      | false=>
       rw[bne,hv0]
       cases (List.range s.Duties.length).any fun k=>!py c s k<;>cases s.Balances.all tV<;>rfl
      | true=>
       rw[bne,hv0]
       cases (List.range s.Duties.length).any fun k=>!py c s k<;>cases s.Balances.all tV<;>rfl
theorem Zg (c:Contract)(s:State)(hc:eH c)(hs:lX s):∃b,tM c s=some b∧Gj c s=some b∧(b=true→iM c=true∧∃names,pg c=some names∧ym c=some names∧StF c s names):=by
 cases hb:iM c with
 | false=>
  refine⟨false,?_,?_,by simp⟩
  ·unfold tM;rw[uT c hc,Option.bind_some,hb];rfl
  ·unfold Gj;rw[uO c hc,Option.bind_some,hb];rfl
 | true=>
  obtain⟨f1,f2,f3,f4⟩:=kA hb
  obtain⟨names,n1,n2,n3,n4⟩:=AW c hc f2 (qm.2 f4)
  obtain⟨v,v1,v2⟩:=Zh s.Balances hs.2.2.2.1.1
  have hnl:names.length≤1048576:=Nat.le_trans n4.2 (by decide)
  refine⟨_,N0 c s hc hs hb n1 hnl v1,?_,fun h=>⟨rfl,names,n1,n2,?_⟩⟩
  ·unfold Gj
   rw[uO c hc,Option.bind_some,hb,cond_true,NH c s hc hs n2 hnl v2]
   rfl
  ·unfold wE at h
   simp only[Bool.and_eq_true,decide_eq_true_eq,beq_iff_eq,Bool.not_eq_true'] at h
   obtain⟨g1,g2,g3,g4,g5,g6,g7,g8⟩:=h
   refine⟨g1,g2,g5,g3,g4,fun k hk=>?_,g7,by rw[v1,g8]⟩
   rw[List.any_eq_false] at g6
   have:=g6 k (List.mem_range.2 hk)
   simpa using this
theorem qx (l:List Int)(n:Int)(m:Nat)(hm:m≤l.length)(hl:l.length≤1048576)(h1:∀(j:Nat) x,j<m→l[j]?=some x→x<n)(h2:∀x,l[m]?=some x→¬x<n):∀(k j:Nat),j+k=m→si l n (j:Int)=some (.inr (n,(m:Int),l))
 | 0,j,hj=>by
  obtain rfl:j=m:=by omega
  rw[CU,kf,bu]
  by_cases h:j<l.length
  ·rw[decide_eq_true h,cond_true,bD,List.getElem?_eq_getElem h,Option.bind_some,eR,decide_eq_false (h2 _ (List.getElem?_eq_getElem h)),cond_false]
  ·rw[decide_eq_false h,cond_false,eR,cond_false]
 | k+1,j,hj=>by
  have h:j<l.length:=by omega
  rw[CU,kf,bu,decide_eq_true h,cond_true,bD,List.getElem?_eq_getElem h,Option.bind_some,eR,decide_eq_true (h1 j _ (by omega) (List.getElem?_eq_getElem h)),cond_true,ca (by omega)]
  exact qx l n m hm hl h1 h2 k (j+1) (by omega)
theorem qi {b:Nat}{xs ys:List Int}(h:(xs.length+ys.length)*b≤1099511627776)(h2:xs.length+ys.length≤1099511627776):ge b xs ys=some (xs++ys):=by
 unfold ge
 rw[if_pos]
 simp only[lq]
 omega
theorem put_val (l : List Int)(n : Int)(hl : l.length ≤ 1000000)(hs : l.Pairwise (· < ·)) : ∃ r,vv l n=some r ∧ r.Pairwise (· < ·) ∧ (∀ x,x ∈ r ↔ x ∈ l ∨ x=n) ∧ r.length ≤ l.length + 1:=by
  have key : ∃ m,m ≤ l.length ∧ (∀ (j : Nat) x,j < m→l[j]?=some x→x < n) ∧ (∀ x,l[m]?=some x→¬ x < n):=by
    clear hl
    induction l with
    | nil=>exact ⟨0,by simp,fun j x hj=>by omega,fun x hx=>by simp at hx⟩
    | cons y l ih =>
      by_cases hy : y < n
      · obtain ⟨m,h1,h2,h3⟩:=ih (List.pairwise_cons.1 hs).2
        refine ⟨m + 1,by simp; omega,fun j x hj hx=>?_,fun x hx=>h3 x (by simpa using hx)⟩
        cases j with
        | zero=>simp at hx; omega
        | succ j=>exact h2 j x (by omega) (by simpa using hx)
      · exact ⟨0,by simp,fun j x hj=>by omega,fun x hx=>by simp at hx; omega⟩
  obtain ⟨m,hm,h1,h2⟩:=key
  have hlow : ∀ x ∈ l.take m,x < n:=by
    intro x hx
    obtain ⟨i,hi,rfl⟩:=List.mem_iff_getElem.1 hx
    rw [List.length_take] at hi
    rw [List.getElem_take]
    exact h1 i _ (by omega) (List.getElem?_eq_getElem (by omega))
  have hloop:=qx l n m hm (by omega) h1 h2 m 0 (by omega)
  rw [show ((0 : Nat) : Int)=0 from rfl] at hloop
  unfold vv
  rw [hloop]
  simp only [cM,bu]
  have s1 : f9 l.length 0 (m : Int)=some ():=by unfold f9; rw [if_pos (by omega)]
  have s2 : f9 l.length (m : Int) (len l)=some ():=by unfold f9; rw [if_pos (by simp only [len]; omega)]
  have p1 : fK l (0 + Int.toNat 0) (Int.toNat (m : Int) - Int.toNat 0)=some (l.take m):=by
    unfold fK
    simp only [Int.toNat_zero,Int.toNat_natCast,Nat.zero_add,Nat.sub_zero,List.drop_zero]
    rw [if_pos hm]
  have p2 : fK l (0 + Int.toNat (m : Int)) (Int.toNat (len l) - Int.toNat (m : Int))=some (l.drop m):=by
    unfold fK
    simp only [Int.toNat_natCast,Nat.zero_add,len]
    rw [if_pos (by omega),List.take_of_length_le (by rw [List.length_drop]; omega)]
  have a1 : ge 8 ([] : List Int) (l.take m)=some (l.take m):=by rw [qi (by simp only [List.length_nil,List.length_take]; omega) (by simp only [List.length_nil,List.length_take]; omega)]; rfl
  have a2 : ge 8 (l.take m) [n]=some (l.take m ++ [n]):=nW (by rw [List.length_take]; omega) (by rw [List.length_take]; omega)
  have a3 : ge 8 (l.take m ++ [n]) (l.drop m)=some (l.take m ++ [n] ++ l.drop m):=qi (by simp only [List.length_append,List.length_take,List.length_drop,List.length_singleton]; omega) (by simp only [List.length_append,List.length_take,List.length_drop,List.length_singleton]; omega)
  have hins : (∀ x ∈ l.drop m,n < x)→(l.take m ++ [n] ++ l.drop m).Pairwise (· < ·) ∧ (∀ x,x ∈ l.take m ++ [n] ++ l.drop m ↔ x ∈ l ∨ x=n) ∧ (l.take m ++ [n] ++ l.drop m).length ≤ l.length + 1:=by
    intro hhi
    have hs2:=hs
    rw [← List.take_append_drop m l,List.pairwise_append] at hs2
    refine ⟨List.pairwise_append.2 ⟨List.pairwise_append.2 ⟨hs2.1,List.pairwise_singleton _ _,fun x hx y hy=>?_⟩,hs2.2.1,fun x hx y hy=>?_⟩,fun x=>?_,?_⟩
    · rw [List.mem_singleton] at hy; subst hy; exact hlow x hx
    · rcases List.mem_append.1 hx with hx | hx
      · exact hs2.2.2 x hx y hy
      · rw [List.mem_singleton] at hx; subst hx; exact hhi y hy
    · have : x ∈ l ↔ x ∈ l.take m ∨ x ∈ l.drop m:=by
        rw [← List.mem_append,List.take_append_drop]
      rw [List.mem_append,List.mem_append,List.mem_singleton,this]
      constructor
      · rintro ((h | h) | h)
        · exact .inl (.inl h)
        · exact .inr h
        · exact .inl (.inr h)
      · rintro ((h | h) | h)
        · exact .inl (.inl h)
        · exact .inr h
        · exact .inl (.inr h)
    · simp only [List.length_append,List.length_take,List.length_drop,List.length_singleton]; omega
  by_cases hb : m < l.length
  · have hx:=List.getElem?_eq_getElem hb
    have hge:=h2 _ hx
    have hrest : ∀ x ∈ l.drop (m + 1),l[m] < x:=by
      intro x hx
      obtain ⟨i,hi,rfl⟩:=List.mem_iff_getElem.1 hx
      rw [List.length_drop] at hi
      rw [List.getElem_drop]
      exact List.pairwise_iff_getElem.1 hs m (m + 1 + i) hb (by omega) (by omega)
    rw [decide_eq_true hb,cond_true,bD,hx,Option.bind_some,cM,mG]
    by_cases he : l[m]=n
    · rw [decide_eq_true he,cond_true]
      refine ⟨l,rfl,hs,fun x=>⟨.inl,?_⟩,by omega⟩
      rintro (h | h)
      · exact h
      · rw [h,← he]; exact List.getElem_mem hb
    · rw [decide_eq_false he,cond_false]
      simp only [s1,p1,a1,a2,s2,p2,a3,Option.bind_some]
      refine ⟨_,rfl,hins ?_⟩
      intro x hx
      rw [List.drop_eq_getElem_cons hb] at hx
      rcases List.mem_cons.1 hx with rfl | hx
      · omega
      · have:=hrest x hx; omega
  · rw [decide_eq_false hb,cond_false,cM,cond_false]
    simp only [s1,p1,a1,a2,s2,p2,a3,Option.bind_some]
    refine ⟨_,rfl,hins ?_⟩
    intro x hx
    rw [List.drop_of_length_le (by omega)] at hx
    cases hx
mutual
def kX:Condition→List Int
 | ⟨op,_,day,parts⟩=>(if op=3 then [day] else [])++eS parts
def eS:List Condition→List Int
 | []=>[]
 | x::xs=>kX x++eS xs
end
theorem JJ (c:Condition):kX c=(if c.Op=3 then [c.Day] else [])++eS c.Parts:=by cases c;simp only[kX]
theorem Et:∀(a b:List Condition),eS (a++b)=eS a++eS b
 | [],b=>rfl
 | x::a,b=>by simp only[List.cons_append,eS,Et a b,List.append_assoc]
theorem yt (a:List Condition)(i:Nat)(h:i<a.length):eS (a.take (i+1))=eS (a.take i)++kX a[i]:=by
 rw[List.take_add_one,List.getElem?_eq_getElem h,Et]
 simp[eS]
mutual
theorem GF:∀c,(kX c).length≤aW c
 | ⟨op,name,day,parts⟩=>by
  have:=ub parts
  simp only[kX,aW,List.length_append]
  split<;>simp<;>omega
theorem ub:∀a,(eS a).length≤aJ a
 | []=>by simp[eS]
 | x::a=>by
  have h1:=GF x
  have h2:=ub a
  simp only[eS,aJ,List.length_append]
  omega
end
theorem RC (c:Condition):∀l:List Int,l.length+aW c≤1000000→Q2 c l=some (l++kX c):=by
 refine eG (P:=fun c=>∀l:List Int,l.length+aW c≤1000000→Q2 c l=some (l++kX c)) ?_ c
 intro c ih l hl
 have hnc:=eA c
 have hpl:=eY c.Parts
 rw[YO]
 unfold wQ
 have h0:(bif (c.Op==3) then ((ge 8 l [c.Day]).bind fun a8=>some (.inr a8)) else (some (.inr l)):Option (List Int⊕List Int))=some (.inr (l++if c.Op=3 then [c.Day] else [])):=by
  rw[mG]
  by_cases h:c.Op=3
  ·rw[decide_eq_true h,cond_true,nW (by omega) (by omega),if_pos h];rfl
  ·rw[decide_eq_false h,cond_false,if_neg h,List.append_nil]
 rw[h0,cM]
 have hlen:(l++if c.Op=3 then [c.Day] else []).length≤l.length+1:=by
  rw[List.length_append];split<;>simp
 rw[JJ,←List.append_assoc]
 generalize (l++if c.Op=3 then [c.Day] else [])=l1 at hlen ⊢
 obtain⟨y,h1,h2⟩:=gi (L:=fun i (s:List Int)=>mQ (aF mP) c l ((i:Int),s)) c.Parts.length (fun i s=>s=l1++eS (c.Parts.take i)) (fun y=>y=.inr (l1++eS c.Parts)) (s:=l1)
  (by
   intro i s hi hj
   have hx:=List.getElem?_eq_getElem hi
   have h3:=pS c.Parts i hi
   have h4:=lc c.Parts (i+1)
   have h5:=ub (c.Parts.take i)
   refine .inl ⟨l1++eS (c.Parts.take (i+1)),rfl,?_⟩
   show mQ (aF mP) c l ((i:Int),s)=_
   rw[Gq,ku]
   simp only[bu,decide_eq_true hi,cond_true,bD,hx,Option.bind_some]
   rw[show aF mP (c.Parts[i],s)=_ from ih _ (List.getElem_mem hi) s (by rw[hj,List.length_append];omega),Option.bind_some,ca (by omega),hj,yt _ _ hi,List.append_assoc])
  (by
   intro s hj
   refine⟨_,rfl,?_⟩
   rw[List.take_length] at hj
   show mQ (aF mP) c l ((c.Parts.length:Int),s)=_
   rw[Gq,ku]
   simp only[bu,decide_eq_false (Nat.lt_irrefl _),cond_false]
   rw[hj]) (by simp[eS])
 rw[show mQ (aF mP) c l (0,l1)=some y from h2,h1]
 rfl
theorem R9 (c : Condition) : ez c=true→∀ l : List Int,l.length + aW c ≤ 1000000→l.Pairwise (· < ·)→∃ r,IT l c=some r ∧ r.Pairwise (· < ·) ∧ (∀ x,x ∈ r ↔ x ∈ l ∨ x ∈ kX c) ∧ r.length ≤ l.length + aW c:=by
  refine eG (P:=fun c=>ez c=true→∀ l : List Int,l.length + aW c ≤ 1000000→l.Pairwise (· < ·)→∃ r,IT l c=some r ∧ r.Pairwise (· < ·) ∧ (∀ x,x ∈ r ↔ x ∈ l ∨ x ∈ kX c) ∧ r.length ≤ l.length + aW c) ?_ c
  intro c ih hf l hl hs
  have hnc:=eA c
  have hpl:=eY c.Parts
  rw [qT,Bool.and_eq_true,List.all_eq_true] at hf
  rw [VL]
  unfold sk
  rw [mG,JJ]
  by_cases ho : c.Op=3
  · obtain ⟨r,e,r1,r2,r3⟩:=put_val l c.Day (by omega) hs
    rw [decide_eq_true ho,cond_true,e,if_pos ho,Ex hf.1 (.inr ho)]
    exact ⟨r,rfl,r1,fun x=>by rw [r2]; simp [eS],by omega⟩
  rw [decide_eq_false ho,cond_false,if_neg ho,List.nil_append]
  obtain ⟨y,h1,h2⟩:=gi (L:=fun i (s : List Int)=>kP (aF kh) l c ((i : Int),s)) c.Parts.length
    (fun i s=>s.Pairwise (· < ·) ∧ (∀ x,x ∈ s ↔ x ∈ l ∨ x ∈ eS (c.Parts.take i)) ∧ s.length ≤ l.length + aJ (c.Parts.take i))
    (fun y=>∃ r,y=.inr r ∧ r.Pairwise (· < ·) ∧ (∀ x,x ∈ r ↔ x ∈ l ∨ x ∈ eS c.Parts) ∧ r.length ≤ l.length + aW c) (s:=l)
    (by
      rintro i s hi ⟨j1,j2,j3⟩
      have hx:=List.getElem?_eq_getElem hi
      have h3:=pS c.Parts i hi
      have h4:=lc c.Parts (i + 1)
      obtain ⟨r,e,r1,r2,r3⟩:=ih _ (List.getElem_mem hi) (hf.2 _ (List.getElem_mem hi)) s (by omega) j1
      refine .inl ⟨r,⟨r1,fun x=>?_,by omega⟩,?_⟩
      · rw [r2,j2,yt _ _ hi,List.mem_append,or_assoc]
      show kP (aF kh) l c ((i : Int),s)=_
      rw [C2,i6]
      simp only [bu,decide_eq_true hi,cond_true,bD,hx,Option.bind_some]
      rw [show aF kh (s,c.Parts[i])=_ from e,Option.bind_some,ca (by omega)])
    (by
      rintro s ⟨j1,j2,j3⟩
      rw [List.take_length] at *
      refine ⟨.inr s,⟨s,rfl,j1,j2,by omega⟩,?_⟩
      show kP (aF kh) l c ((c.Parts.length : Int),s)=_
      rw [C2,i6]
      simp only [bu,decide_eq_false (Nat.lt_irrefl _),cond_false]) ⟨hs,fun x=>by simp [eS],by simp [aJ]⟩
  obtain ⟨r,rfl,hr⟩:=h1
  rw [show kP (aF kh) l c (0,l)=some (.inr r) from h2]
  exact ⟨r,rfl,hr⟩
def lU (D:List Duty)(x:Int):Prop:=∃d∈D,d.Status=1∧x=au (d.Due+1)
def nC (cs:List Clause)(x:Int):Prop:=∃e∈cs,x∈kX e.When
theorem qP {D:List Duty}{i:Nat}(hi:i<D.length){x:Int}:lU (D.take (i+1)) x↔lU (D.take i) x∨(D[i].Status=1∧x=au (D[i].Due+1)):=by
 unfold lU
 rw[List.take_add_one,List.getElem?_eq_getElem hi]
 constructor
 ·rintro⟨d,hd,h⟩
  rcases List.mem_append.1 hd with hd | hd
  ·exact .inl ⟨d,hd,h⟩
  ·simp only[Option.toList_some,List.mem_singleton] at hd
   subst hd
   exact .inr h
 ·rintro (⟨d,hd,h⟩ | h)
  ·exact⟨d,List.mem_append.2 (.inl hd),h⟩
  ·exact⟨_,List.mem_append.2 (.inr (by simp)),h⟩
theorem Fd {cs:List Clause}{i:Nat}(hi:i<cs.length){x:Int}:nC (cs.take (i+1)) x↔nC (cs.take i) x∨x∈kX cs[i].When:=by
 unfold nC
 rw[List.take_add_one,List.getElem?_eq_getElem hi]
 constructor
 ·rintro⟨d,hd,h⟩
  rcases List.mem_append.1 hd with hd | hd
  ·exact .inl ⟨d,hd,h⟩
  ·simp only[Option.toList_some,List.mem_singleton] at hd
   subst hd
   exact .inr h
 ·rintro (⟨d,hd,h⟩ | h)
  ·exact⟨d,List.mem_append.2 (.inl hd),h⟩
  ·exact⟨_,List.mem_append.2 (.inr (by simp)),h⟩
theorem Mx {c:Contract}(h:iM c=true){e:Clause}(he:e∈c.Clauses):aW e.When≤15:=by
 obtain⟨i,hi,rfl⟩:=List.mem_iff_getElem.1 he
 have h1:=ql ((kA h).2.2.2 _ _ (List.getElem?_eq_getElem hi)).2
 simp only[mY,Bool.and_eq_true,decide_eq_true_eq] at h1
 omega
theorem U4 {c:Contract}(h:iM c=true){e:Clause}(he:e∈c.Clauses):ez e.When=true:=by
 obtain⟨i,hi,rfl⟩:=List.mem_iff_getElem.1 he
 have h1:=ql ((kA h).2.2.2 _ _ (List.getElem?_eq_getElem hi)).2
 simp only[mY,Bool.and_eq_true] at h1
 exact h1.1
theorem NY (c : Contract)(s : State)(h : iM c=true)(hd : s.Duties.length ≤ 24) : ∃ r u,kO c s (0,[])=some (.inr u) ∧ mi c s (0,u)=some (.inr r) ∧ r.Pairwise (· < ·) ∧ (∀ x,x ∈ r ↔ lU s.Duties x ∨ nC c.Clauses x) ∧ r.length ≤ 1000:=by
  have h12:=(kA h).2.1
  obtain ⟨y,⟨u,rfl,u1,u2,u3⟩,hu⟩:=gi (L:=fun i (l : List Int)=>kO c s ((i : Int),l)) s.Duties.length
    (fun i l=>l.Pairwise (· < ·) ∧ (∀ x,x ∈ l ↔ lU (s.Duties.take i) x) ∧ l.length ≤ i)
    (fun y=>∃ u,y=.inr u ∧ u.Pairwise (· < ·) ∧ (∀ x,x ∈ u ↔ lU s.Duties x) ∧ u.length ≤ 24) (s:=[])
    (by
      rintro i l hi ⟨j1,j2,j3⟩
      have hx:=List.getElem?_eq_getElem hi
      by_cases hst : s.Duties[i].Status=1
      · obtain ⟨r,e,r1,r2,r3⟩:=put_val l (au (s.Duties[i].Due + 1)) (by omega) j1
        refine .inl ⟨r,⟨r1,fun x=>?_,by omega⟩,?_⟩
        · rw [r2,j2,qP hi]; simp [hst]
        · show kO c s ((i : Int),l)=_
          rw [tC,iZ]
          simp only [bu,decide_eq_true hi,cond_true,bD,hx,Option.bind_some]
          rw [beq_iff_eq.2 hst,cond_true,e,ca (by omega)]
          rfl
      · refine .inl ⟨l,⟨j1,fun x=>?_,by omega⟩,?_⟩
        · rw [j2,qP hi]; simp [hst]
        · show kO c s ((i : Int),l)=_
          rw [tC,iZ]
          simp only [bu,decide_eq_true hi,cond_true,bD,hx,Option.bind_some]
          rw [beq_eq_false_iff_ne.2 hst,cond_false,ca (by omega)]
          rfl)
    (by
      rintro l ⟨j1,j2,j3⟩
      rw [List.take_length] at j2
      refine ⟨.inr l,⟨l,rfl,j1,j2,by omega⟩,?_⟩
      show kO c s ((s.Duties.length : Int),l)=_
      rw [tC,iZ]
      simp only [bu,decide_eq_false (Nat.lt_irrefl _),cond_false]) ⟨List.Pairwise.nil,fun x=>by simp [lU],by simp⟩
  obtain ⟨y,⟨r,rfl,r1,r2,r3⟩,hr⟩:=gi (L:=fun i (l : List Int)=>mi c s ((i : Int),l)) c.Clauses.length
    (fun i l=>l.Pairwise (· < ·) ∧ (∀ x,x ∈ l ↔ lU s.Duties x ∨ nC (c.Clauses.take i) x) ∧ l.length ≤ 24 + 15 * i)
    (fun y=>∃ u,y=.inr u ∧ u.Pairwise (· < ·) ∧ (∀ x,x ∈ u ↔ lU s.Duties x ∨ nC c.Clauses x) ∧ u.length ≤ 1000) (s:=u)
    (by
      rintro i l hi ⟨j1,j2,j3⟩
      have hx:=List.getElem?_eq_getElem hi
      have hn:=Mx h (List.getElem_mem hi)
      obtain ⟨r,e,r1,r2,r3⟩:=R9 c.Clauses[i].When (U4 h (List.getElem_mem hi)) l (by omega) j1
      refine .inl ⟨r,⟨r1,fun x=>?_,by omega⟩,?_⟩
      · rw [r2,j2,Fd hi,or_assoc]
      · show mi c s ((i : Int),l)=_
        rw [CQ,kd]
        simp only [bu,decide_eq_true hi,cond_true,bD,hx,Option.bind_some]
        rw [e,Option.bind_some,ca (by omega)])
    (by
      rintro l ⟨j1,j2,j3⟩
      rw [List.take_length] at j2
      refine ⟨.inr l,⟨l,rfl,j1,j2,by omega⟩,?_⟩
      show mi c s ((c.Clauses.length : Int),l)=_
      rw [CQ,kd]
      simp only [bu,decide_eq_false (Nat.lt_irrefl _),cond_false]) ⟨u1,fun x=>by rw [u2]; simp [nC],by omega⟩
  exact ⟨r,u,hu,hr,r1,r2,r3⟩
theorem NF (c:Contract)(s:State)(h:iM c=true)(hd:s.Duties.length≤24):∃r u,mU c s (0,[])=some (.inr u)∧oS c s (0,u)=some (.inr r)∧(∀x,x∈r↔lU s.Duties x∨nC c.Clauses x)∧r.length≤1000:=by
 have h12:=(kA h).2.1
 obtain⟨y,⟨u,rfl,u2,u3⟩,hu⟩:=gi (L:=fun i (l:List Int)=>mU c s ((i:Int),l)) s.Duties.length
  (fun i l=>(∀x,x∈l↔lU (s.Duties.take i) x)∧l.length≤i)
  (fun y=>∃u,y=.inr u∧(∀x,x∈u↔lU s.Duties x)∧u.length≤24) (s:=[])
  (by
   rintro i l hi ⟨j2,j3⟩
   have hx:=List.getElem?_eq_getElem hi
   by_cases hst:s.Duties[i].Status=1
   ·refine .inl ⟨l++[au (s.Duties[i].Due+1)],⟨fun x=>?_,by simp;omega⟩,?_⟩
    ·rw[List.mem_append,j2,qP hi];simp[hst]
    ·show mU c s ((i:Int),l)=_
     rw[vU,kx]
     simp only[bu,decide_eq_true hi,cond_true,bD,hx,Option.bind_some]
     rw[beq_iff_eq.2 hst,cond_true,nW (by omega) (by omega),ca (by omega)]
     rfl
   ·refine .inl ⟨l,⟨fun x=>?_,by omega⟩,?_⟩
    ·rw[j2,qP hi];simp[hst]
    ·show mU c s ((i:Int),l)=_
     rw[vU,kx]
     simp only[bu,decide_eq_true hi,cond_true,bD,hx,Option.bind_some]
     rw[beq_eq_false_iff_ne.2 hst,cond_false,ca (by omega)]
     rfl)
  (by
   rintro l ⟨j2,j3⟩
   rw[List.take_length] at j2
   refine⟨.inr l,⟨l,rfl,j2,by omega⟩,?_⟩
   show mU c s ((s.Duties.length:Int),l)=_
   rw[vU,kx]
   simp only[bu,decide_eq_false (Nat.lt_irrefl _),cond_false]) ⟨fun x=>by simp[lU],by simp⟩
 obtain⟨y,⟨r,rfl,r2,r3⟩,hr⟩:=gi (L:=fun i (l:List Int)=>oS c s ((i:Int),l)) c.Clauses.length
  (fun i l=>(∀x,x∈l↔lU s.Duties x∨nC (c.Clauses.take i) x)∧l.length≤24+15*i)
  (fun y=>∃u,y=.inr u∧(∀x,x∈u↔lU s.Duties x∨nC c.Clauses x)∧u.length≤1000) (s:=u)
  (by
   rintro i l hi ⟨j2,j3⟩
   have hx:=List.getElem?_eq_getElem hi
   have hn:=Mx h (List.getElem_mem hi)
   have hdl:=GF c.Clauses[i].When
   refine .inl ⟨l++kX c.Clauses[i].When,⟨fun x=>?_,by rw[List.length_append];omega⟩,?_⟩
   ·rw[List.mem_append,j2,Fd hi,or_assoc]
   ·show oS c s ((i:Int),l)=_
    rw[Gx,lR]
    simp only[bu,decide_eq_true hi,cond_true,bD,hx,Option.bind_some]
    rw[RC _ l (by omega),Option.bind_some,ca (by omega)])
  (by
   rintro l ⟨j2,j3⟩
   rw[List.take_length] at j2
   refine⟨.inr l,⟨l,rfl,j2,by omega⟩,?_⟩
   show oS c s ((c.Clauses.length:Int),l)=_
   rw[Gx,lR]
   simp only[bu,decide_eq_false (Nat.lt_irrefl _),cond_false]) ⟨fun x=>by rw[u2];simp[nC],by omega⟩
 exact⟨r,u,hu,hr,r2,r3⟩
def wt (s:State)(x:Int):Prop:=s.Day<x∧0≤x∧x≤36524
def sX (s:State)(l:List Int)(v:Int):Prop:=(v=-1∧∀x∈l,¬wt s x)∨(v∈l∧wt s v∧∀x∈l,wt s x→v≤x)
theorem Ib (s:State)(x:Int):(decide (x>s.Day)&&dR x 0 36524)=true↔wt s x:=by
 rw[Bool.and_eq_true,decide_eq_true_eq,mF]
 unfold wt
 omega
theorem LH (c : Contract)(s : State)(r : List Int)(hr : r.Pairwise (· < ·))(hl : r.length ≤ 1000) : ∃ v,sX s r v ∧ (aX (ρ:=Int) (iD c s r 0) fun _ : Unit=>some (-1))=some v:=by
  obtain ⟨y,hy,h⟩:=gi (L:=fun i (_ : Unit)=>iD c s r (i : Int)) r.length (fun i _=>∀ j (hj : j < r.length),j < i→¬ wt s r[j])
    (fun y=>(y=.inr () ∧ ∀ x ∈ r,¬ wt s x) ∨ ∃ v,y=.inl v ∧ v ∈ r ∧ wt s v ∧ ∀ x ∈ r,wt s x→v ≤ x) (s:=())
    (by
      rintro i _ hi hj
      have hx:=List.getElem?_eq_getElem hi
      have hst : iD c s r (i : Int)=bif (decide (r[i] > s.Day) && dR r[i] 0 36524) then some (.inl r[i]) else iD c s r ((i + 1 : Nat) : Int):=by
        rw [CR,ke]
        simp only [bu,decide_eq_true hi,cond_true,bD,hx,Option.bind_some,nP,lj]
        rw [ca (by omega)]
        cases decide (r[i] > s.Day) <;> cases dR r[i] 0 36524 <;> rfl
      cases hb : (decide (r[i] > s.Day) && dR r[i] 0 36524) with
      | true =>
        refine .inr ⟨.inl r[i],.inr ⟨_,rfl,List.getElem_mem hi,(Ib s _).1 hb,fun x hx hok=>?_⟩,by rw [hst,hb]; rfl⟩
        obtain ⟨j,hj2,rfl⟩:=List.mem_iff_getElem.1 hx
        rcases Nat.lt_trichotomy j i with h1 | h1 | h1
        · exact absurd hok (hj j hj2 h1)
        · subst h1; exact Int.le_refl _
        · exact Int.le_of_lt (List.pairwise_iff_getElem.1 hr i j hi hj2 h1)
      | false =>
        refine .inl ⟨(),fun j hj2 hji=>?_,by rw [hst,hb]; rfl⟩
        rcases Nat.lt_or_eq_of_le (Nat.le_of_lt_succ hji) with h1 | h1
        · exact hj j hj2 h1
        · subst h1
          rw [← Ib,hb]
          exact Bool.false_ne_true)
    (by
      rintro _ hj
      refine ⟨.inr (),.inl ⟨rfl,fun x hx=>?_⟩,?_⟩
      · obtain ⟨j,hj2,rfl⟩:=List.mem_iff_getElem.1 hx
        exact hj j hj2 hj2
      · show iD c s r (r.length : Int)=_
        rw [CR,ke]
        simp only [bu,decide_eq_false (Nat.lt_irrefl _),cond_false]) (fun j _ hj=>absurd hj (Nat.not_lt_zero _))
  rcases hy with ⟨rfl,hy⟩ | ⟨v,rfl,hy⟩
  · exact ⟨-1,.inl ⟨rfl,hy⟩,by rw [show iD c s r 0=_ from h]; rfl⟩
  · exact ⟨v,.inr hy,by rw [show iD c s r 0=_ from h]; rfl⟩
theorem Lz (c:Contract)(s:State)(r:List Int)(hl:r.length≤1000):∃v,sX s r v∧mV c s r ((-1),0)=some (.inr v):=by
 obtain⟨y,⟨v,rfl,hy⟩,h⟩:=gi (L:=fun i (v:Int)=>mV c s r (v,(i:Int))) r.length (fun i v=>sX s (r.take i) v)
  (fun y=>∃v,y=.inr v∧sX s r v) (s:=-1)
  (by
   rintro i v hi hj
   have hx:=List.getElem?_eq_getElem hi
   have hv:v<0↔v=-1∧∀x∈r.take i,¬wt s x:=by
    constructor
    ·intro h0
     rcases hj with h1 | ⟨_,h1,_⟩
     ·exact h1
     ·exact absurd h1.2.1 (by omega)
    ·rintro⟨h1,_⟩
     omega
   have hst:mV c s r (v,(i:Int))=mV c s r ((bif (decide (r[i]>s.Day)&&dR r[i] 0 36524)&&(decide (v<0)||decide (r[i]<v)) then r[i] else v),((i+1:Nat):Int)):=by
    rw[Gy,lS]
    simp only[bu,decide_eq_true hi,cond_true,bD,hx,Option.bind_some,my,jL,fE]
    rw[ca (by omega)]
    cases decide (r[i]>s.Day)<;>cases dR r[i] 0 36524<;>cases decide (v<0)<;>cases decide (r[i]<v)<;>rfl
   refine .inl ⟨_,?_,hst⟩
   have htk:∀x,x∈r.take (i+1)↔x∈r.take i∨x=r[i]:=fun x=>by rw[List.take_add_one,hx,List.mem_append];simp
   cases hb:(decide (r[i]>s.Day)&&dR r[i] 0 36524) with
   | false=>
    have hno:¬wt s r[i]:=by rw[←Ib,hb];exact Bool.false_ne_true
    rw[Bool.false_and,cond_false]
    rcases hj with⟨h1,h2⟩ | ⟨h1,h2,h3⟩
    ·refine .inl ⟨h1,fun x hx=>?_⟩
     rcases (htk x).1 hx with h | rfl
     ·exact h2 x h
     ·exact hno
    ·refine .inr ⟨(htk v).2 (.inl h1),h2,fun x hx hok=>?_⟩
     rcases (htk x).1 hx with h | rfl
     ·exact h3 x h hok
     ·exact absurd hok hno
   | true=>
    have hok:=(Ib s _).1 hb
    rw[Bool.true_and]
    by_cases hlt:v<0∨r[i]<v
    ·rw[show (decide (v<0)||decide (r[i]<v))=true by simpa using hlt,cond_true]
     refine .inr ⟨(htk _).2 (.inr rfl),hok,fun x hx hx2=>?_⟩
     rcases (htk x).1 hx with h | rfl
     ·rcases hj with⟨h1,h2⟩ | ⟨h1,h2,h3⟩
      ·exact absurd hx2 (h2 x h)
      ·have:=h3 x h hx2
       rcases hlt with h4 | h4
       ·exact absurd h2.2.1 (by omega)
       ·omega
     ·exact Int.le_refl _
    ·rw[show (decide (v<0)||decide (r[i]<v))=false by simpa using hlt,cond_false]
     rcases hj with⟨h1,h2⟩ | ⟨h1,h2,h3⟩
     ·exact absurd (.inl (by omega)) hlt
     ·refine .inr ⟨(htk v).2 (.inl h1),h2,fun x hx hx2=>?_⟩
      rcases (htk x).1 hx with h | rfl
      ·exact h3 x h hx2
      ·omega)
  (by
   rintro v hj
   rw[List.take_length] at hj
   refine⟨.inr v,⟨v,rfl,hj⟩,?_⟩
   show mV c s r (v,(r.length:Int))=_
   rw[Gy,lS]
   simp only[bu,decide_eq_false (Nat.lt_irrefl _),cond_false]) (.inl ⟨rfl,by simp⟩)
 exact⟨v,hy,h⟩
theorem NK {s:State}{a b:List Int}(hm:∀x,x∈a↔x∈b){v w:Int}(hv:sX s a v)(hw:sX s b w):v=w:=by
 rcases hv with⟨rfl,h1⟩ | ⟨h1,h2,h3⟩
 ·rcases hw with⟨rfl,_⟩ | ⟨g1,g2,_⟩
  ·rfl
  ·exact absurd g2 (h1 w ((hm w).2 g1))
 ·rcases hw with⟨rfl,g1⟩ | ⟨g1,g2,g3⟩
  ·exact absurd h2 (g1 v ((hm v).1 h1))
  ·have:=h3 w ((hm w).2 g1) g2
   have:=g3 v ((hm v).1 h1) h2
   omega
theorem WK (c:Contract)(s:State)(hc:eH c)(hs:lX s):∃r,zV c s=some r∧Jf c s=some r:=by
 obtain⟨b,g1,g2,g3⟩:=Zg c s hc hs
 unfold zV Jf
 rw[g1,g2,Option.bind_some,Option.bind_some]
 cases b with
 | false=>exact⟨_,rfl,rfl⟩
 | true=>
  obtain⟨h,names,n1,n2,f⟩:=g3 rfl
  simp only[Bool.not_true,cond_false]
  obtain⟨r,u,a1,a2,a3,a4,a5⟩:=NY c s h f.dl
  obtain⟨r',u',b1,b2,b3,b4⟩:=NF c s h f.dl
  obtain⟨v,v1,v2⟩:=LH c s r a3 a5
  obtain⟨w,w1,w2⟩:=Lz c s r' b4
  have:=NK (fun x=>by rw[a4,b3]) v1 w1
  subst this
  unfold Fr L0
  rw[a1,b1,cM,cM,a2,b2,cM,cM,v2,w2,cM]
  cases s.Over<;>exact⟨_,rfl,rfl⟩
theorem sW (c:Contract)(hc:SZ c)(s:State)(hs:AY s):ep c s=some true:=by
 unfold ep
 obtain⟨r1,e1,q1⟩:=LJ c hc (l:=1048576) (by decide) (by decide)
 rw[e1,Option.bind_some]
 rcases q1 with q1 | ⟨q1,p1,s1⟩
 ·rw[decide_eq_true q1,cond_true]
 rw[decide_eq_false (by omega),cond_false]
 obtain⟨r2,e2,q2⟩:=UX s hs (l:=r1) (by omega) (by omega)
 rw[e2,Option.bind_some]
 rcases q2 with q2 | ⟨q2,p2,s2⟩
 ·rw[decide_eq_true q2,cond_true]
 rw[decide_eq_false (by omega),cond_false]
 obtain⟨r,g1,g2⟩:=WK c s s1 s2
 simp only[LK c s1,UZ s s2,Option.bind_some,g1,g2,Lv c s1,Um s s2,beq_self_eq_true,bne_self_eq_false,Bool.not_true,fE,cond_false]
end Go.Ln
