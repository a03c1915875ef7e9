/-
  The plain law: the plain functions answer true.
-/
import Derived.Test.YtobhcnmeflacnaaGreatDoorFnExactIsFulfilledLib
import Derived.Sort.AssemblyPlain
import Derived.Sort.LotD4
import Derived.Sort.LotD5
set_option linter.unusedVariables false
set_option linter.unusedSimpArgs false
set_option maxRecDepth 100000
namespace Go.Ln
open Go
theorem ye {α:Type}{b:Nat}{xs:List α}{y:α}(h:(xs.length+1)*b≤1099511627776)(h2:xs.length+1≤1099511627776):kx b xs [y]=some (xs++[y]):=by
 unfold kx
 rw[if_pos]
 simp only[List.length_cons,List.length_nil,kh,Nat.zero_add]
 omega
namespace StrL
theorem lt_irrefl:∀(a:ah),Op.bytesLess a a=false
 | []=>rfl
 | x::xs=>by
  have h:¬x<x:=by simp
  simp[Op.bytesLess,h,lt_irrefl xs]
theorem lt_trans:∀(a b c:ah),Op.bytesLess a b=true→Op.bytesLess b c=true→Op.bytesLess a c=true
 | _,[],_,h,_=>by simp[Op.bytesLess] at h
 | _,_::_,[],_,h=>by simp[Op.bytesLess] at h
 | [],_::_,_::_,_,_=>rfl
 | x::xs,y::ys,z::zs,h1,h2=>by
  simp only[Op.bytesLess,Bool.or_eq_true,decide_eq_true_eq,Bool.and_eq_true,beq_iff_eq] at h1 h2 ⊢
  rcases h1 with h1 | ⟨h1,h3⟩<;>rcases h2 with h2 | ⟨h2,h4⟩
  ·exact .inl (UInt8.lt_trans h1 h2)
  ·subst h2;exact .inl h1
  ·subst h1;exact .inl h2
  ·subst h1;subst h2;exact .inr ⟨rfl,lt_trans xs ys zs h3 h4⟩
def Lt (a b:ah):Prop:=Op.bytesLess a b=true
theorem tri (a b:ah):Lt a b∨a=b∨Lt b a:=by
 have:=Hm a b
 unfold Lt
 cases h:Op.bytesLess a b
 ·cases h2:a==b
  ·rw[h,h2] at this;exact .inr (.inr this.symm)
  ·exact .inr (.inl (by simpa using h2))
 ·exact .inl rfl
theorem Lt.irrefl {a:ah}(h:Lt a a):False:=by unfold Lt at h;rw[lt_irrefl] at h;cases h
theorem Lt.trans {a b c:ah}(h:Lt a b)(h2:Lt b c):Lt a c:=lt_trans a b c h h2
theorem Lt.asymm {a b:ah}(h:Lt a b)(h2:Lt b a):False:=(h.trans h2).irrefl
def Le (a b:ah):Prop:=¬Lt b a
theorem Le.lt_or {a b:ah}(h:Le a b):Lt a b∨a=b:=by
 rcases tri a b with h1 | h1 | h1
 ·exact .inl h1
 ·exact .inr h1
 ·exact (h h1).elim
theorem Le.trans {a b c:ah}(h:Le a b)(h2:Le b c):Le a c:=by
 intro h3
 rcases h.lt_or with h4 | rfl
 ·rcases h2.lt_or with h5 | rfl
  ·exact (h4.trans h5).asymm h3
  ·exact h h3
 ·exact h2 h3
theorem Lt.le {a b:ah}(h:Lt a b):Le a b:=fun h2=>h.asymm h2
theorem Lt.ne {a b:ah}(h:Lt a b):a≠b:=fun e=>by subst e;exact h.irrefl
theorem Le.le_lt {a b c:ah}(h:Le a b)(h2:Lt b c):Lt a c:=by
 rcases h.lt_or with h3 | rfl
 ·exact h3.trans h2
 ·exact h2
end StrL
namespace StrL
def eR (a:List ah)(j:Nat):Bool:=match j with
 | 0=>true
 | j+1=>match a[j]?,a[j+1]? with
  | some x,some y=>y != x
  | _,_=>true
def dd (a:List ah):List ah:=jx (eR a) a a.length
theorem DT {a:List ah}{k:Nat}(h:∀j x y,j+1<k→a[j]?=some x→a[j+1]?=some y→y≠x)(hn:k≤a.length):jx (eR a) a k=a.take k:=by
 have e:∀n,n≤k→jx (eR a) a n=a.take n:=by
  intro n
  induction n with
  | zero=>intro _;rfl
  | succ n ih=>
   intro hk
   have h1:n<a.length:=by omega
   have hx:=List.getElem?_eq_getElem h1
   rw[xI ?_ hx,ih (by omega),List.take_add_one,hx]
   ·rfl
   ·cases n with
    | zero=>rfl
    | succ n=>
     have h2:=List.getElem?_eq_getElem (show n<a.length by omega)
     simp only[eR,h2,hx]
     simpa using h n _ _ (by omega) h2 hx
 exact e k (Nat.le_refl k)
theorem J7 {s z:List ah}{x j:Nat}(h1:x≤j)(h2:j<s.length):rH z (0+Int.toNat (x:Int)) (Int.toNat (len s) - Int.toNat (x:Int)) ((j:Int) - (x:Int))=z[j]?:=by
 unfold rH
 simp only[len,Int.toNat_natCast,Nat.zero_add]
 rw[if_pos (by omega),show x+((j:Int) - (x:Int)).toNat=j by omega]
theorem Ih (s:List ah)(x:Nat)(hl:s.length≤1048576)(hx:x<s.length)(h0:jx (eR s) s (x+1)=s.take x):∃(i:Nat) (z:List ah),iL s (x:Int) ((x:Int),1,s)=some (.inr ((i:Int),z))∧z.length=s.length∧i≤z.length∧z.take i=dd s:=by
 have hD:=TJ (L:=fun q:Int×Int×List ah=>iL s (x:Int) (q.1,q.2.1 - (x:Int),q.2.2)) (keep:=eR s) (a:=s) (i0:=x)
  (by
   intro i j z y hz hi hij hy hy2 hy3
   obtain⟨h1,_⟩:=List.getElem?_eq_some_iff.1 hy
   have h2:=List.getElem?_eq_getElem (show j - 1<s.length by omega)
   have h4:=List.getElem?_eq_getElem (show i<z.length by omega)
   show iL s (x:Int) ((i:Int),(j:Int) - (x:Int),z)=bif eR s j then iL s (x:Int) (((i+1:Nat):Int),((j+1:Nat):Int) - (x:Int),z.set i y) else iL s (x:Int) ((i:Int),((j+1:Nat):Int) - (x:Int),z)
   have w1:ar ((j:Int) - (x:Int) - 1)=((j - 1:Nat):Int) - (x:Int):=by rw[iD (by omega) (by omega)];omega
   have w2:ar ((j:Int) - (x:Int)+1)=((j+1:Nat):Int) - (x:Int):=by rw[iD (by omega) (by omega)];omega
   have c1:decide ((j:Int) - (x:Int)<(((Int.toNat (len s) - Int.toNat (x:Int)):Nat):Int))=true:=decide_eq_true (by simp only[len,Int.toNat_natCast];omega)
   rw[Dg,ja]
   simp only[c1,cond_true,w1,w2,J7 (show x≤j by omega) h1,J7 (show x≤j - 1 by omega) (show j - 1<s.length by omega),hy2,hy3,h2,Option.bind_some,bM,GY,h4,ct (show i<9223372036854775807 by omega)]
   have hk:eR s j=(y != s[j - 1]):=by
    cases j with
    | zero=>omega
    | succ j=>
     simp only[eR,hy,show j+1 - 1=j by omega] at h2 ⊢
     simp only[h2]
   rw[hk]
   show _=bif !(y==s[j - 1]) then _ else _
   cases y==s[j - 1]<;>rfl)
  (by
   intro i j z hz hi hij hj
   show iL s (x:Int) ((i:Int),(j:Int) - (x:Int),z)=_
   have c1:decide ((j:Int) - (x:Int)<(((Int.toNat (len s) - Int.toNat (x:Int)):Nat):Int))=false:=decide_eq_false (by simp only[len,Int.toNat_natCast];omega)
   rw[Dg,ja]
   simp only[c1,cond_false])
  h0 hx
 simp only[show ((x+1:Nat):Int) - (x:Int)=1 by omega] at hD
 exact hD
theorem sZ (s:List ah)(hl:s.length≤1048576):∀(n k:Nat),k+n=s.length→1≤k→(∀j x y,j+1<k→s[j]?=some x→s[j+1]?=some y→y≠x)→∃y,oe s (k:Int)=some y∧(y=.inl (dd s)∨y=.inr (dd s))
 | 0,k,hk,h1,h=>by
  refine⟨.inr s,?_,.inr ?_⟩
  ·rw[B7,jt,bB,decide_eq_false (by omega),cond_false]
  ·unfold dd
   rw[DT (k:=s.length) (fun j x y hj=>h j x y (by omega)) (Nat.le_refl _),List.take_length]
 | n+1,k,hk,h1,h=>by
  have h2:k<s.length:=by omega
  have e1:=List.getElem?_eq_getElem h2
  have e2:=List.getElem?_eq_getElem (show k - 1<s.length by omega)
  have w1:ar ((k:Int) - 1)=((k - 1:Nat):Int):=by rw[iD (by omega) (by omega)];omega
  rw[B7,jt,bB,decide_eq_true h2,cond_true,w1,bM,bM,e1,e2,Option.bind_some,Option.bind_some,ct (by omega)]
  by_cases hq:s[k]=s[k - 1]
  ·rw[beq_iff_eq.2 hq,cond_true]
   have e3:gC s.length (k:Int) (len s)=some ():=by unfold gC;rw[if_pos (by simp only[len];omega)]
   have hno:eR s k=false:=by
    cases k with
    | zero=>omega
    | succ k=>
     simp only[show k+1 - 1=k by omega] at e2 hq
     simp only[eR,e1,e2,hq,bne_self_eq_false]
   obtain⟨i,z,e,hz,hi,ht⟩:=Ih s k hl h2 (by rw[D6 hno,DT h (by omega)])
   rw[e3,Option.bind_some,e,fu]
   refine⟨.inl (dd s),?_,.inl rfl⟩
   rw[←ht]
   exact Yd (c:=([]:ah)) (F:=fun p19=>some (Sum.inl p19)) hi
  ·rw[beq_eq_false_iff_ne.2 hq,cond_false]
   refine sZ s hl n (k+1) (by omega) (by omega) fun j x y hj hx hy=>?_
   by_cases hj2:j+1<k
   ·exact h j x y hj2 hx hy
   ·obtain rfl:k=j+1:=by omega
    simp only[show j+1 - 1=j by omega] at e2 hq
    rw[e2] at hx
    rw[e1] at hy
    cases hx
    cases hy
    exact hq
theorem compact_val (s:List ah)(hl:s.length≤1048576):xC s=some (dd s):=by
 unfold xC
 by_cases h:len s<2
 ·rw[decide_eq_true h,cond_true]
  have h':s.length<2:=by simp only[len] at h;omega
  unfold dd
  rw[DT (k:=s.length) (fun j x y hj=>by omega) (Nat.le_refl _),List.take_length]
 ·rw[decide_eq_false h,cond_false]
  have h':¬s.length<2:=by simp only[len] at h;omega
  obtain⟨y,hy,hq⟩:=sZ s hl (s.length - 1) 1 (by omega) (Nat.le_refl _) (fun j x y hj=>by omega)
  rw[show oe s 1=some y from hy]
  rcases hq with rfl | rfl<;>rfl
end StrL
namespace StrL
theorem EC {a:List ah}(hs:a.Pairwise Le):∀n,n≤a.length→(jx (eR a) a n).Pairwise Lt∧∀x,x∈jx (eR a) a n↔x∈a.take n
 | 0,_=>by
  have e:jx (eR a) a 0=[]:=rfl
  rw[e]
  exact⟨List.Pairwise.nil,fun x=>by simp⟩
 | n+1,hn=>by
  obtain⟨h1,h2⟩:=EC hs n (by omega)
  have hlt:n<a.length:=by omega
  have hx:=List.getElem?_eq_getElem hlt
  have hle:∀y∈a.take n,Le y a[n]:=by
   intro y hy
   obtain⟨i,hi,rfl⟩:=List.mem_iff_getElem.1 hy
   rw[List.length_take] at hi
   rw[List.getElem_take]
   exact List.pairwise_iff_getElem.1 hs i n (by omega) hlt (by omega)
  cases hk:eR a n with
  | true=>
   rw[xI hk hx]
   have hstrict:∀y∈a.take n,Lt y a[n]:=by
    intro y hy
    cases n with
    | zero=>simp at hy
    | succ j=>
     have h3:=List.getElem?_eq_getElem (show j<a.length by omega)
     have hne:a[j+1]≠a[j]:=by
      simp only[eR,h3,hx] at hk
      simpa using hk
     have hj:Le a[j] a[j+1]:=List.pairwise_iff_getElem.1 hs j (j+1) (by omega) hlt (by omega)
     obtain⟨i,hi,rfl⟩:=List.mem_iff_getElem.1 hy
     rw[List.length_take] at hi
     rw[List.getElem_take]
     have hlt2:Lt a[j] a[j+1]:=hj.lt_or.resolve_right fun e=>hne e.symm
     by_cases e:i=j
     ·subst e;exact hlt2
     ·have:=List.pairwise_iff_getElem.1 hs i j (by omega) (by omega) (by omega)
      exact this.le_lt hlt2
   refine⟨List.pairwise_append.2 ⟨h1,List.pairwise_singleton _ _,fun y hy z hz=>?_⟩,fun x=>?_⟩
   ·rw[List.mem_singleton] at hz
    subst hz
    exact hstrict y ((h2 y).1 hy)
   ·rw[List.take_add_one,hx,List.mem_append,List.mem_append,h2]
    rfl
  | false=>
   rw[D6 hk]
   refine⟨h1,fun x=>?_⟩
   rw[h2,List.take_add_one,hx,List.mem_append]
   constructor
   ·exact .inl
   ·rintro (h | h)
    ·exact h
    ·have e:x=a[n]:=by simpa using h
     subst e
     cases n with
     | zero=>simp[eR] at hk
     | succ j=>
      have h3:=List.getElem?_eq_getElem (show j<a.length by omega)
      simp only[eR,h3,hx] at hk
      have e:a[j+1]=a[j]:=by simpa using hk
      rw[e]
      have:a[j]∈a.take (j+1):=by
       rw[List.mem_iff_getElem]
       exact⟨j,by rw[List.length_take];omega,by rw[List.getElem_take]⟩
      exact this
theorem dd_ok {a:List ah}(hs:a.Pairwise Le):(dd a).Pairwise Lt∧∀x,x∈dd a↔x∈a:=by
 have:=EC hs a.length (Nat.le_refl _)
 rw[List.take_length] at this
 exact this
theorem asc_uniq:∀{a b:List ah},a.Pairwise Lt→b.Pairwise Lt→(∀x,x∈a↔x∈b)→a=b
 | [],[],_,_,_=>rfl
 | [],y::b,_,_,h=>absurd ((h y).2 (by simp)) (by simp)
 | x::a,[],_,_,h=>absurd ((h x).1 (by simp)) (by simp)
 | x::a,y::b,ha,hb,h=>by
  rw[List.pairwise_cons] at ha hb
  have e:x=y:=by
   have h1:=(h x).1 (by simp)
   have h2:=(h y).2 (by simp)
   rw[List.mem_cons] at h1 h2
   rcases h1 with h1 | h1
   ·exact h1
   ·rcases h2 with h2 | h2
    ·exact h2.symm
    ·exact ((ha.1 y h2).asymm (hb.1 x h1)).elim
  subst e
  rw[asc_uniq ha.2 hb.2 fun z=>?_]
  constructor
  ·intro hz
   have h1:=(h z).1 (List.mem_cons_of_mem _ hz)
   rcases List.mem_cons.1 h1 with e | h1
   ·subst e;exact (ha.1 z hz).irrefl.elim
   ·exact h1
  ·intro hz
   have h1:=(h z).2 (List.mem_cons_of_mem _ hz)
   rcases List.mem_cons.1 h1 with e | h1
   ·subst e;exact (hb.1 z hz).irrefl.elim
   ·exact h1
theorem HR {b:Nat}{xs ys:List ah}(h:(xs.length+ys.length)*b≤1099511627776)(h2:xs.length+ys.length≤1099511627776):kx b xs ys=some (xs++ys):=by
 unfold kx
 rw[if_pos]
 simp only[kh]
 omega
theorem G5 (l:List ah)(n:ah)(m:Nat)(hm:m≤l.length)(hl:l.length≤1048576)(h1:∀(j:Nat) x,j<m→l[j]?=some x→Lt x n)(h2:∀x,l[m]?=some x→¬Lt x n):∀(k j:Nat),j+k=m→qM l n (j:Int)=some (.inr (n,(m:Int),l))
 | 0,j,hj=>by
  obtain rfl:j=m:=by omega
  rw[Dk,jo,bB]
  by_cases h:j<l.length
  ·rw[decide_eq_true h,cond_true,bM,List.getElem?_eq_getElem h,Option.bind_some,fu,show Op.bytesLess l[j] n=false from by simpa[Lt] using h2 _ (List.getElem?_eq_getElem h),cond_false]
  ·rw[decide_eq_false h,cond_false,fu,cond_false]
 | k+1,j,hj=>by
  have h:j<l.length:=by omega
  rw[Dk,jo,bB,decide_eq_true h,cond_true,bM,List.getElem?_eq_getElem h,Option.bind_some,fu,show Op.bytesLess l[j] n=true from h1 j _ (by omega) (List.getElem?_eq_getElem h),cond_true,ct (by omega)]
  exact G5 l n m hm hl h1 h2 k (j+1) (by omega)
theorem put_val (l:List ah)(n:ah)(hl:l.length≤1000000)(hs:l.Pairwise Lt):∃r,uI l n=some r∧r.Pairwise Lt∧(∀x,x∈r↔x∈l∨x=n)∧r.length≤l.length+1:=by
 have key:∃m,m≤l.length∧(∀(j:Nat) x,j<m→l[j]?=some x→Lt x n)∧(∀x,l[m]?=some x→¬Lt x n):=by
  clear hl
  induction l with
  | nil=>exact⟨0,by simp,fun j x hj=>by omega,fun x hx=>by simp at hx⟩
  | cons y l ih=>
   by_cases hy:Lt y n
   ·obtain⟨m,h1,h2,h3⟩:=ih (List.pairwise_cons.1 hs).2
    refine⟨m+1,by simp;omega,fun j x hj hx=>?_,fun x hx=>h3 x (by simpa using hx)⟩
    cases j with
    | zero=>simp at hx;subst hx;exact hy
    | succ j=>exact h2 j x (by omega) (by simpa using hx)
   ·exact⟨0,by simp,fun j x hj=>by omega,fun x hx=>by simp at hx;subst hx;exact hy⟩
 obtain⟨m,hm,h1,h2⟩:=key
 have hlow:∀x∈l.take m,Lt x n:=by
  intro x hx
  obtain⟨i,hi,rfl⟩:=List.mem_iff_getElem.1 hx
  rw[List.length_take] at hi
  rw[List.getElem_take]
  exact h1 i _ (by omega) (List.getElem?_eq_getElem (by omega))
 have hloop:=G5 l n m hm (by omega) h1 h2 m 0 (by omega)
 rw[show ((0:Nat):Int)=0 from rfl] at hloop
 unfold uI
 rw[hloop]
 simp only[dx,bB]
 have s1:gC l.length 0 (m:Int)=some ():=by unfold gC;rw[if_pos (by omega)]
 have s2:gC l.length (m:Int) (len l)=some ():=by unfold gC;rw[if_pos (by simp only[len];omega)]
 have p1:gI l (0+Int.toNat 0) (Int.toNat (m:Int) - Int.toNat 0)=some (l.take m):=by
  unfold gI
  simp only[Int.toNat_zero,Int.toNat_natCast,Nat.zero_add,Nat.sub_zero,List.drop_zero]
  rw[if_pos hm]
 have p2:gI l (0+Int.toNat (m:Int)) (Int.toNat (len l) - Int.toNat (m:Int))=some (l.drop m):=by
  unfold gI
  simp only[Int.toNat_natCast,Nat.zero_add,len]
  rw[if_pos (by omega),List.take_of_length_le (by rw[List.length_drop];omega)]
 have a1:kx 16 ([]:List ah) (l.take m)=some (l.take m):=by rw[HR (by simp only[List.length_nil,List.length_take];omega) (by simp only[List.length_nil,List.length_take];omega)];rfl
 have a2:kx 16 (l.take m) [n]=some (l.take m++[n]):=ye (by rw[List.length_take];omega) (by rw[List.length_take];omega)
 have a3:kx 16 (l.take m++[n]) (l.drop m)=some (l.take m++[n]++l.drop m):=HR (by simp only[List.length_append,List.length_take,List.length_drop,List.length_singleton];omega) (by simp only[List.length_append,List.length_take,List.length_drop,List.length_singleton];omega)
 have hins:(∀x∈l.drop m,Lt n x)→(l.take m++[n]++l.drop m).Pairwise Lt∧(∀x,x∈l.take m++[n]++l.drop m↔x∈l∨x=n)∧(l.take m++[n]++l.drop m).length≤l.length+1:=by
  intro hhi
  have hs2:=hs
  rw[←List.take_append_drop m l,List.pairwise_append] at hs2
  refine⟨List.pairwise_append.2 ⟨List.pairwise_append.2 ⟨hs2.1,List.pairwise_singleton _ _,fun x hx y hy=>?_⟩,hs2.2.1,fun x hx y hy=>?_⟩,fun x=>?_,?_⟩
  ·rw[List.mem_singleton] at hy;subst hy;exact hlow x hx
  ·rcases List.mem_append.1 hx with hx | hx
   ·exact hs2.2.2 x hx y hy
   ·rw[List.mem_singleton] at hx;subst hx;exact hhi y hy
  ·have:x∈l↔x∈l.take m∨x∈l.drop m:=by
    rw[←List.mem_append,List.take_append_drop]
   rw[List.mem_append,List.mem_append,List.mem_singleton,this]
   constructor
   ·rintro ((h | h) | h)
    ·exact .inl (.inl h)
    ·exact .inr h
    ·exact .inl (.inr h)
   ·rintro ((h | h) | h)
    ·exact .inl (.inl h)
    ·exact .inr h
    ·exact .inl (.inr h)
  ·simp only[List.length_append,List.length_take,List.length_drop,List.length_singleton];omega
 by_cases hb:m<l.length
 ·have hx:=List.getElem?_eq_getElem hb
  have hge:=h2 _ hx
  have hrest:∀x∈l.drop (m+1),Lt l[m] x:=by
   intro x hx
   obtain⟨i,hi,rfl⟩:=List.mem_iff_getElem.1 hx
   rw[List.length_drop] at hi
   rw[List.getElem_drop]
   exact List.pairwise_iff_getElem.1 hs m (m+1+i) hb (by omega) (by omega)
  rw[decide_eq_true hb,cond_true,bM,hx,Option.bind_some,dx,vf]
  by_cases he:l[m]=n
  ·rw[decide_eq_true he,cond_true]
   refine⟨l,rfl,hs,fun x=>⟨.inl,?_⟩,by omega⟩
   rintro (h | h)
   ·exact h
   ·rw[h,←he];exact List.getElem_mem hb
  ·rw[decide_eq_false he,cond_false]
   simp only[s1,p1,a1,a2,s2,p2,a3,Option.bind_some]
   refine⟨_,rfl,hins ?_⟩
   intro x hx
   rw[List.drop_eq_getElem_cons hb] at hx
   rcases List.mem_cons.1 hx with rfl | hx
   ·exact (tri n l[m]).resolve_right fun h=>h.elim (fun e=>he e.symm) hge
   ·have h1:Lt n l[m]:=(tri n l[m]).resolve_right fun h=>h.elim (fun e=>he e.symm) hge
    exact h1.trans (hrest x hx)
 ·rw[decide_eq_false hb,cond_false,dx,cond_false]
  simp only[s1,p1,a1,a2,s2,p2,a3,Option.bind_some]
  refine⟨_,rfl,hins ?_⟩
  intro x hx
  rw[List.drop_of_length_le (by omega)] at hx
  cases hx
end StrL
theorem vl {x y:ah}:decide (x≤y)=true↔StrL.Le x y:=by
 unfold StrL.Le StrL.Lt
 rw[Go.Proofs.bytesLess_eq,decide_eq_true_iff,decide_eq_true_iff]
 exact Iff.rfl
theorem RF (l:List ah):(l.mergeSort fun x y=>decide (x≤y)).Pairwise StrL.Le:=by
 have h:=List.pairwise_mergeSort (le:=fun x y:ah=>decide (x≤y)) (fun x y z h1 h2=>by
  rw[vl] at *;exact h1.trans h2) (fun x y=>by
  rw[Bool.or_eq_true,vl,vl]
  rcases StrL.tri x y with h | h | h
  ·exact .inl h.le
  ·subst h;exact .inl fun h=>h.irrefl
  ·exact .inr h.le) l
 exact h.imp fun {x y} h=>vl.1 h
theorem Ub (l r:List ah)(hl:l.length≤1048576)(hr:r.Pairwise StrL.Lt)(hm:∀x,x∈r↔x∈l):Hw l=some r:=by
 unfold Hw qy
 have hl2:(l.mergeSort fun (x y:ah)=>decide (x≤y)).length=l.length:=List.length_mergeSort _
 rw[Nat.ble_eq_true_of_le hl,cond_true,Option.bind_some,hl2,Nat.beq_refl,cond_true,StrL.compact_val _ (by rw[hl2];exact hl),Option.bind_some]
 obtain⟨h1,h2⟩:=StrL.dd_ok (RF l)
 congr 1
 refine StrL.asc_uniq h1 hr fun x=>?_
 rw[h2,hm]
 exact (List.mergeSort_perm l _).mem_iff
theorem yR (b x:Bool):(bif b then x else false)=(b&&x):=by cases b<;>rfl
def dC (x a b:Int):Bool:=decide (x≥a)&&decide (x≤b)
theorem lc (x a b:Int):cW x a b=some (dC x a b):=by simp only[cW,eY,yR,dC]
theorem jO (x a b:Int):kj x a b=some (dC x a b):=by simp only[kj,eY,yR,dC]
def iY (c:UInt8):Bool:=(decide (97≤c.toNat)&&decide (c.toNat≤122))||(decide (48≤c.toNat)&&decide (c.toNat≤57))
theorem Mi (c:UInt8):uk (c.toNat:Int)=some (iY c):=by
 simp only[uk,iY,eY]
 by_cases h1:97≤c.toNat<;>by_cases h2:c.toNat≤122<;>by_cases h3:48≤c.toNat<;>by_cases h4:c.toNat≤57<;>simp[h1,h2,h3,h4,show ((97:Int)≤c.toNat)↔97≤c.toNat by omega,show ((c.toNat:Int)≤122)↔c.toNat≤122 by omega,show ((48:Int)≤c.toNat)↔48≤c.toNat by omega,show ((c.toNat:Int)≤57)↔c.toNat≤57 by omega]
def jZ:List ah:=[[116,114,117,101],[102,114,111,109],[110,111,116],[97,110,100],[111,114],[98,111,116,104],[101,105,116,104,101,114],[105,116],[105,110]]
def eC (s:ah):Bool:=match s with
 | []=>false
 | c::r=>decide (r.length<8)&&decide (97≤c.toNat)&&decide (c.toNat≤122)&&s.all iY && !jZ.contains s
theorem T1 (b x:Bool):(bif b then b else x)=(b||x):=by cases b<;>rfl
theorem Jw:ym [116,114,117,101,32,102,114,111,109,32,110,111,116,32,97,110,100,32,111,114,32,98,111,116,104,32,101,105,116,104,101,114,32,105,116,32,105,110] [32]=some jZ:=by
 have h:vi [116,114,117,101,32,102,114,111,109,32,110,111,116,32,97,110,100,32,111,114,32,98,111,116,104,32,101,105,116,104,101,114,32,105,116,32,105,110] [32] 0 (-1) 9 ([116,114,117,101,32,102,114,111,109,32,110,111,116,32,97,110,100,32,111,114,32,98,111,116,104,32,101,105,116,104,101,114,32,105,116,32,105,110],0,List.replicate 9 [])=some (.inr ([105,110],8,[[116,114,117,101],[102,114,111,109],[110,111,116],[97,110,100],[111,114],[98,111,116,104],[101,105,116,104,101,114],[105,116],[]])):=
  (gA (fun a=>(wD _ _ _ _ _ a).1)).2 ⟨20,by decide +kernel⟩
 have e:ym [116,114,117,101,32,102,114,111,109,32,110,111,116,32,97,110,100,32,111,114,32,98,111,116,104,32,101,105,116,104,101,114,32,105,116,32,105,110] [32]=(aV (vi [116,114,117,101,32,102,114,111,109,32,110,111,116,32,97,110,100,32,111,114,32,98,111,116,104,32,101,105,116,104,101,114,32,105,116,32,105,110] [32] 0 (-1) 9 ([116,114,117,101,32,102,114,111,109,32,110,111,116,32,97,110,100,32,111,114,32,98,111,116,104,32,101,105,116,104,101,114,32,105,116,32,105,110],0,List.replicate 9 [])) fun u12:ah×Int×(List ah)=>(aI u12.2.2 u12.2.1).bind fun e13=>(gC (ey u12.2.2 u12.2.1 u12.1).length 0 (ar (u12.2.1+1))).bind fun s14=>(gI (ey u12.2.2 u12.2.1 u12.1) (0+Int.toNat (0)) (Int.toNat ((ar (u12.2.1+1))) - Int.toNat (0))).bind fun p15=>some p15).bind fun r=>some r:=by rfl
 rw[e,h]
 rfl
theorem DI (s:ah):oO jZ s=some (jZ.contains s):=by
 unfold oO yo
 rw[jK (L:=nW jZ s) (a:=jZ) (p:=fun e=>some (s==e)) (q:=fun e=>s==e) (fun _ _=>rfl) (fun x=>by rw[CI,jF]<;>rfl) (by decide)]
 cases h:jZ.findIdx? (fun e=>s==e) with
 | none=>
  have:jZ.contains s=false:=by
   rw[List.findIdx?_eq_none_iff] at h
   rw[Bool.eq_false_iff]
   intro hc
   rw[List.contains_iff_exists_mem_beq] at hc
   obtain⟨w,hw,he⟩:=hc
   rw[h w hw] at he
   cases he
  rw[this]
  rfl
 | some i=>
  have:jZ.contains s=true:=by
   rw[List.findIdx?_eq_some_iff_getElem] at h
   obtain⟨hi,he,_⟩:=h
   rw[List.contains_iff_exists_mem_beq]
   exact⟨_,List.getElem_mem hi,he⟩
  rw[this]
  simp
theorem LF (s:ah):(bif s==[116,114,117,101] then s==[116,114,117,101] else bif s==[102,114,111,109] then s==[102,114,111,109] else bif s==[110,111,116] then s==[110,111,116] else bif s==[97,110,100] then s==[97,110,100] else bif s==[111,114] then s==[111,114] else bif s==[98,111,116,104] then s==[98,111,116,104] else bif s==[101,105,116,104,101,114] then s==[101,105,116,104,101,114] else bif s==[105,116] then s==[105,116] else s==[105,110])=jZ.contains s:=by
 simp only[T1,jZ,List.contains_cons,List.contains_nil,Bool.or_false]
theorem ni (s:ah)(hs:s.length≤1048576):oW s=some (eC s):=by
 unfold oW cW eC
 simp only[eY,Option.bind_some,LF]
 cases s with
 | nil=>rfl
 | cons c r=>
  have e1:decide (len (c::r)≥1)=true:=decide_eq_true (by simp[len];omega)
  have e2:decide (len (c::r)≤8)=decide (r.length<8):=by simp only[len,List.length_cons];congr 1;apply propext;omega
  have e3:aI (c::r) (0:Int)=some c:=rfl
  have e4:decide ((c.toNat:Int)<97)=!decide (97≤c.toNat):=by rw[←decide_not];congr 1;apply propext;omega
  have e5:decide ((c.toNat:Int)>122)=!decide (c.toNat≤122):=by rw[←decide_not];congr 1;apply propext;omega
  rw[e1,e2,e3,qG (r:=false) (L:=rk (c::r)) (a:=c::r) (p:=fun c=>(uk (c.toNat:Int)).bind fun r=>some (!r)) (q:=fun c=>!iY c) (fun x _=>by rw[Mi];rfl) (fun x=>by rw[KN,kY];simp only[Option.bind_assoc,Option.bind_some]) (by omega)]
  simp only[cond_true,Option.bind_some,e4,e5]
  have e6:((c::r).any fun c=>!iY c)=!((c::r).all iY):=by rw[List.not_all_eq_any_not]
  rw[e6]
  cases decide (r.length<8)<;>cases decide (97≤c.toNat)<;>cases decide (c.toNat≤122)<;>cases (c::r).all iY<;>cases jZ.contains (c::r)<;>rfl
theorem mV (s:ah)(hs:s.length≤1048576):sV s=some (eC s):=by
 unfold sV kj eC
 simp only[eY,Option.bind_some,Jw,DI]
 cases s with
 | nil=>rfl
 | cons c r=>
  have e1:decide (len (c::r)≥1)=true:=decide_eq_true (by simp[len];omega)
  have e2:decide (len (c::r)≤8)=decide (r.length<8):=by simp only[len,List.length_cons];congr 1;apply propext;omega
  have e3:aI (c::r) (0:Int)=some c:=rfl
  have e4:decide ((c.toNat:Int)<97)=!decide (97≤c.toNat):=by rw[←decide_not];congr 1;apply propext;omega
  have e5:decide ((c.toNat:Int)>122)=!decide (c.toNat≤122):=by rw[←decide_not];congr 1;apply propext;omega
  have hp:∀c:UInt8,(bif decide ((c.toNat:Int)<97) then (bif decide ((c.toNat:Int)<48) then true else decide ((c.toNat:Int)>57)) else (bif decide ((c.toNat:Int)>122) then (bif decide ((c.toNat:Int)<48) then true else decide ((c.toNat:Int)>57)) else false))=!iY c:=by
   intro c
   have f1:decide ((c.toNat:Int)<97)=!decide (97≤c.toNat):=by rw[←decide_not];congr 1;apply propext;omega
   have f2:decide ((c.toNat:Int)>122)=!decide (c.toNat≤122):=by rw[←decide_not];congr 1;apply propext;omega
   have f3:decide ((c.toNat:Int)<48)=!decide (48≤c.toNat):=by rw[←decide_not];congr 1;apply propext;omega
   have f4:decide ((c.toNat:Int)>57)=!decide (c.toNat≤57):=by rw[←decide_not];congr 1;apply propext;omega
   rw[f1,f2,f3,f4]
   unfold iY
   by_cases g1:97≤c.toNat
   ·have g3:48≤c.toNat:=by omega
    have g4:¬c.toNat≤57:=by omega
    simp only[g1,g3,g4,decide_true,decide_false]
    cases decide (c.toNat≤122)<;>rfl
   ·simp only[g1,decide_false]
    cases decide (48≤c.toNat)<;>cases decide (c.toNat≤57)<;>rfl
  rw[e1,e2,e3,qG (r:=false) (L:=uQ (c::r)) (a:=c::r) (p:=fun c=>some (!iY c)) (q:=fun c=>!iY c) (fun x _=>rfl) (fun x=>by rw[Px,mA];simp only[eY,hp,Option.bind_some]) (by omega)]
  simp only[cond_true,Option.bind_some,e4,e5]
  have e6:((c::r).any fun c=>!iY c)=!((c::r).all iY):=by rw[List.not_all_eq_any_not]
  rw[e6]
  cases decide (r.length<8)<;>cases decide (97≤c.toNat)<;>cases decide (c.toNat≤122)<;>cases (c::r).all iY<;>cases jZ.contains (c::r)<;>rfl
theorem lK {ρ υ σ : Type}{L : Nat → σ → Option (ρ ⊕ υ)}(N : Nat)(J : Nat → σ → Prop)(T : ρ ⊕ υ → Prop)(hs : ∀ i s, i < N → J i s → (∃ s', J (i + 1) s' ∧ L i s = L (i + 1) s') ∨ ∃ y, T y ∧ L i s = some y)(he : ∀ s, J N s → ∃ y, T y ∧ L N s = some y){s : σ}(h0 : J 0 s) : ∃ y, T y ∧ L 0 s = some y := by
  have key : ∀ k i s, i + k = N → J i s → ∃ y, T y ∧ L i s = some y := by
    intro k
    induction k with
    | zero => intro i s hi hj; obtain rfl : i = N := by omega
              exact he s hj
    | succ k ih =>
      intro i s hi hj
      rcases hs i s (by omega) hj with ⟨s', h1, h2⟩ | h
      · rw [h2]; exact ih (i + 1) s' (by omega) h1
      · exact h
  exact key N 0 s (by omega) h0
theorem DF {α:Type}{L:Int→Option (Bool⊕Unit)}{a:List α}{f:α→Option Bool}{p:α→Bool}(hf:∀x∈a,f x=some (p x))(hL:∀x,L x=bif decide (x<len a) then (aI a x).bind fun e=>(f e).bind fun r=>bif !r then some (.inl false) else L (ar (x+1)) else some (.inr ()))(hb:a.length<9223372036854775807):L 0=some (if a.all p then .inr () else .inl false):=by
 obtain⟨y,h1,h2⟩:=lK (L:=fun i (_:Unit)=>L (i:Int)) a.length (fun i _=>(a.take i).all p=true) (fun y=>y=if a.all p then .inr () else .inl false) (s:=())
  (by
   intro i _ hi hj
   have hx:=List.getElem?_eq_getElem hi
   rw[show L (i:Int)=_ from hL _,bB,decide_eq_true hi,cond_true,bM,hx,Option.bind_some,hf _ (List.getElem_mem hi),Option.bind_some,ct (by omega)]
   cases hp:p a[i] with
   | true=>
    refine .inl ⟨(),?_,rfl⟩
    rw[List.take_add_one,hx,List.all_append,hj]
    simp[hp]
   | false=>
    refine .inr ⟨_,?_,rfl⟩
    rw[if_neg]
    intro h
    rw[List.all_eq_true] at h
    rw[h _ (List.getElem_mem hi)] at hp
    cases hp)
  (by
   intro _ hj
   refine⟨_,rfl,?_⟩
   rw[List.take_length] at hj
   rw[show L (a.length:Int)=_ from hL _,bB,decide_eq_false (by omega),cond_false,if_pos hj]) (by simp)
 rw[show L 0=some y from h2,h1]
theorem sD {ρ υ α:Type}{q:α→Bool}{y0 y1:ρ⊕υ}:∀{a:List α} {L:Nat→Option (ρ⊕υ)},(∀(i:Nat) x,a[i]?=some x→L i=bif q x then some y0 else L (i+1))→L a.length=some y1→L 0=some (if a.any q then y0 else y1)
 | [],L,_,he=>by simpa using he
 | x::a,L,hL,he=>by
  rw[hL 0 x rfl,sD (a:=a) (L:=fun i=>L (i+1)) (y0:=y0) (y1:=y1) (fun i z hz=>hL (i+1) z (by simpa using hz)) (by simpa using he),List.any_cons]
  cases q x<;>rfl
def o9 (c:Condition):Bool:=
 if c.Op=1 then decide (c.Parts.length=0)&&(decide (c.Name=[])&&decide (c.Day=0))
 else if c.Op=2 then decide (c.Parts.length=0)&&(eC c.Name&&decide (c.Day=0))
 else if c.Op=3 then decide (c.Parts.length=0)&&(decide (c.Name=[])&&dC c.Day 0 36524)
 else if c.Op=4 then decide (c.Parts.length=1)&&(decide (c.Name=[])&&decide (c.Day=0))
 else if c.Op=5∨c.Op=6 then decide (c.Parts.length=2)&&(decide (c.Name=[])&&decide (c.Day=0))
 else false
mutual
def eb:Condition→Bool
 | ⟨a0,a1,a2,a3⟩=>o9 ⟨a0,a1,a2,a3⟩&&vq a3
def vq:List Condition→Bool
 | []=>true
 | x::xs=>eb x&&vq xs
end
theorem wn:∀a,vq a=a.all eb
 | []=>rfl
 | x::xs=>by simp[vq,wn xs]
theorem uL (c:Condition):eb c=(o9 c&&c.Parts.all eb):=by cases c;simp only[eb,wn]
theorem uY {α:Type}{a:List α}{n:Nat}:(len a==(n:Int))=decide (a.length=n):=by
 rw[qO]
 by_cases h:a.length=n
 ·rw[decide_eq_true h,decide_eq_true];simp only[len];omega
 ·rw[decide_eq_false h,decide_eq_false];simp only[len];omega
theorem N7 (c:Condition)(hn:c.Name.length≤1048576):wV c=some (o9 c):=by
 have l0:(len c.Parts==0)=decide (c.Parts.length=0):=uY (n:=0)
 have l1:(len c.Parts==1)=decide (c.Parts.length=1):=uY (n:=1)
 have l2:(len c.Parts==2)=decide (c.Parts.length=2):=uY (n:=2)
 unfold wV o9
 simp only[eY,ni _ hn,Option.bind_some,oM,lc,l0,l1,l2,vf,qO,yR]
 by_cases o1:c.Op=1
 ·simp only[o1,decide_true,cond_true,if_true]
 by_cases o2:c.Op=2
 ·rw[decide_eq_false o1,decide_eq_true o2,cond_false,cond_true,if_neg o1,if_pos o2]
  cases decide (c.Parts.length=0)<;>rfl
 by_cases o3:c.Op=3
 ·rw[decide_eq_false o1,decide_eq_false o2,decide_eq_true o3,cond_false,cond_false,cond_true,if_neg o1,if_neg o2,if_pos o3]
  cases decide (c.Parts.length=0)<;>cases decide (c.Name=[])<;>rfl
 by_cases o4:c.Op=4
 ·rw[decide_eq_false o1,decide_eq_false o2,decide_eq_false o3,decide_eq_true o4,if_neg o1,if_neg o2,if_neg o3,if_pos o4]
  rfl
 rw[decide_eq_false o1,decide_eq_false o2,decide_eq_false o3,decide_eq_false o4,if_neg o1,if_neg o2,if_neg o3,if_neg o4]
 by_cases o5:c.Op=5
 ·simp only[o5,decide_true,cond_true,cond_false,true_or,if_true]
 ·by_cases o6:c.Op=6
  ·rw[if_pos (.inr o6),decide_eq_false o5,decide_eq_true o6];rfl
  ·rw[if_neg (by omega),decide_eq_false o5,decide_eq_false o6];rfl
theorem KT (c:Condition):bz c→Ee c=some (eb c):=by
 refine eK (P:=fun c=>bz c→Ee c=some (eb c)) ?_ c
 intro c ih hc
 rw[eX] at hc
 rw[TQ]
 unfold ql
 rw[N7 c hc.2.1,Option.bind_some,uL]
 cases o9 c with
 | false=>rfl
 | true=>
  have hl:c.Parts.length≤1048576:=hc.2.2.2.1.1
  simp only[Bool.not_true,cond_false,Bool.true_and]
  rw[DF (L:=nX (aJ ox) c) (a:=c.Parts) (f:=fun e=>Ee e) (p:=eb) (fun x hx=>ih x hx (hc.2.2.2.1.2 x hx)) (fun x=>by rw[KV,jG]<;>rfl) (by omega)]
  cases c.Parts.all eb<;>rfl
theorem vh (a:List Condition)(i:Nat)(h:i<a.length):aF (a.take (i+1))=aF (a.take i)+bg a[i]:=by
 have app:∀(x y:List Condition),aF (x++y)=aF x+aF y:=by
  intro x y
  induction x with
  | nil=>simp[aF]
  | cons z x ih=>simp only[List.cons_append,aF,ih];omega
 rw[List.take_add_one,List.getElem?_eq_getElem h,app]
 simp[aF]
theorem nV (a:List Condition)(i:Nat):aF (a.take i)≤aF a:=by
 have app:∀(x y:List Condition),aF (x++y)=aF x+aF y:=by
  intro x y
  induction x with
  | nil=>simp[aF]
  | cons z x ih=>simp only[List.cons_append,aF,ih];omega
 have:=app (a.take i) (a.drop i)
 rw[List.take_append_drop] at this
 omega
theorem PL (c:Condition):bg c≤2000000→GC c=some ((bg c:Nat):Int):=by
 refine eK (P:=fun c=>bg c≤2000000→GC c=some ((bg c:Nat):Int)) ?_ c
 intro c ih hc
 have hc':=eA c
 have hcs:=fX c.Parts
 rw[Tq]
 unfold qF
 obtain⟨y,h1,h2⟩:=lK (L:=fun i (s:Int)=>jP (aJ jH) c (s,(i:Int))) c.Parts.length (fun i s=>s=((1+aF (c.Parts.take i):Nat):Int)) (fun y=>y=.inr ((bg c:Nat):Int)) (s:=1)
  (by
   intro i s hi hj
   have hx:=List.getElem?_eq_getElem hi
   have h3:=vh c.Parts i hi
   have h4:=nV c.Parts (i+1)
   refine .inl ⟨((1+aF (c.Parts.take (i+1)):Nat):Int),rfl,?_⟩
   show jP (aJ jH) c (s,(i:Int))=_
   rw[Cd,hI]
   simp only[bB,decide_eq_true hi,cond_true,bM,hx,Option.bind_some]
   rw[show aJ jH c.Parts[i]=some ((bg c.Parts[i]:Nat):Int) from ih _ (List.getElem_mem hi) (by omega),Option.bind_some,ct (by omega),hj,iD (by omega) (by omega)]
   congr 2
   omega)
  (by
   intro s hj
   refine⟨_,rfl,?_⟩
   rw[List.take_length] at hj
   show jP (aJ jH) c (s,(c.Parts.length:Int))=_
   rw[Cd,hI]
   simp only[bB,decide_eq_false (Nat.lt_irrefl _),cond_false]
   rw[hj,hc']) (by simp[aF])
 rw[show jP (aJ jH) c (1,0)=some y from h2,h1]
 rfl
def nH (c:Condition):Bool:=eb c&&decide (bg c≤15)
theorem Xt {c:Condition}(h:bz c):bg c≤1048577:=by
 rw[eX] at h
 rw[eA]
 omega
theorem PU (c:Condition)(h:bz c):xF c=some (nH c):=by
 unfold xF nH
 rw[KT c h,Option.bind_some]
 cases eb c with
 | false=>rfl
 | true=>
  have:=Xt h
  simp only[cond_true,Bool.true_and]
  rw[PL c (by omega),Option.bind_some,dx]
  congr 1
  by_cases h:bg c≤15
  ·rw[decide_eq_true h,decide_eq_true (by omega)]
  ·rw[decide_eq_false h,decide_eq_false (by omega)]
def Lr (op:Int):Nat:=if op=4 then 1 else if op=5∨op=6 then 2 else 0
def D4 (c:Condition):Bool:=dC c.Op 1 6&&decide (c.Parts.length=Lr c.Op)
def BE (c:Condition):Bool:=((c.Op==2) == !(c.Name==([]:ah)))&&((if c.Op=2 then eC c.Name else true)&&((if c.Op=3 then true else decide (c.Day=0))&&dC c.Day 0 36524))
theorem mC {x a b:Int}:dC x a b=true↔a≤x∧x≤b:=by simp[dC]
theorem O4 (c:Condition):((kj c.Op 1 6).bind fun r20=>bI (ρ:=Int) (bif (!r20) then (some (.inr true)) else ((aI [(-1),0,0,0,1,2,2] c.Op).bind fun e22=>some (.inr ((len c.Parts) != e22)))) fun u21:Bool=>(some (.inr u21):Option (Int⊕Bool)))=some (.inr (!D4 c)):=by
 rw[jO,Option.bind_some]
 unfold D4
 cases h:dC c.Op 1 6 with
 | false=>rfl
 | true=>
  rw[mC] at h
  have ho:c.Op=1∨c.Op=2∨c.Op=3∨c.Op=4∨c.Op=5∨c.Op=6:=by omega
  have key:aI [(-1),0,0,0,1,2,2] c.Op=some ((Lr c.Op:Nat):Int):=by rcases ho with h | h | h | h | h | h<;>rw[h]<;>rfl
  simp only[Bool.not_true,cond_false,key,Option.bind_some,fu,Bool.true_and,bne,uY]
theorem ML (c:Condition)(hn:c.Name.length≤1048576):(bif (!((c.Op==2)==(!(c.Name==([]:ah))))) then (some (.inr true)) else (bI (ρ:=Int) (bif (c.Op==2) then ((sV c.Name).bind fun r10=>bI (ρ:=Int) (bif (!r10) then (some (.inr true)) else (bI (ρ:=Int) (bif (c.Op != 3) then (bI (ρ:=Int) (bif (c.Day != 0) then (some (.inr true)) else ((me c.Day).bind fun r14=>some (.inr (!r14)))) fun u13:Bool=>some (.inr u13)) else ((me c.Day).bind fun r15=>some (.inr (!r15)))) fun u12:Bool=>some (.inr u12))) fun u11:Bool=>some (.inr u11)) else (bI (ρ:=Int) (bif (c.Op != 3) then (bI (ρ:=Int) (bif (c.Day != 0) then (some (.inr true)) else ((me c.Day).bind fun r18=>some (.inr (!r18)))) fun u17:Bool=>some (.inr u17)) else ((me c.Day).bind fun r19=>some (.inr (!r19)))) fun u16:Bool=>some (.inr u16))) fun u9:Bool=>(some (.inr u9):Option (Int⊕Bool))))=some (.inr (!BE c)):=by
 unfold BE
 simp only[mV _ hn,me,jO,Option.bind_some,Uj]
 cases ((c.Op==2) == !(c.Name==([]:ah))) with
 | false=>rfl
 | true=>
  simp only[Bool.not_true,cond_false,Bool.true_and]
  by_cases o2:c.Op=2
  ·simp only[o2,if_true,show ((2:Int)==2)=true from rfl,cond_true,show ¬(2:Int)=3 by omega,if_false,decide_false,Bool.not_false]
   cases eC c.Name<;>by_cases hd:c.Day=0<;>simp[hd]
  ·have:(c.Op==2)=false:=beq_eq_false_iff_ne.2 o2
   rw[this,cond_false,if_neg o2]
   by_cases o3:c.Op=3
   ·simp[o3]
   ·by_cases hd:c.Day=0<;>simp[o3,hd]
theorem zU (c:Condition):o9 c=(D4 c&&BE c):=by
 have name0:c.Name=[]→eC c.Name=false:=fun h=>by rw[h];rfl
 have d0:c.Day=0→dC c.Day 0 36524=true:=fun h=>by rw[h];rfl
 have in1:dC c.Op 1 6=decide (1≤c.Op∧c.Op≤6):=by rw[Bool.eq_iff_iff,mC,decide_eq_true_iff]
 unfold o9 D4 BE
 rw[in1,show Lr c.Op=if c.Op=4 then 1 else if c.Op=5∨c.Op=6 then 2 else 0 from rfl]
 by_cases hn:c.Name=[]
 ·by_cases hd:c.Day=0
  ·by_cases o1:c.Op=1
   ·simp[o1,hn,hd,dC]
   by_cases o2:c.Op=2
   ·simp[o2,hn,hd,eC]
   by_cases o3:c.Op=3
   ·simp[o3,hn,hd,dC]
   by_cases o4:c.Op=4
   ·simp[o4,hn,hd,dC]
   by_cases o5:c.Op=5
   ·simp[o5,hn,hd,dC]
   by_cases o6:c.Op=6
   ·simp[o6,hn,hd,dC]
   have:¬(1≤c.Op∧c.Op≤6):=by omega
   simp[o1,o2,o3,o4,o5,o6,decide_eq_false this]
  ·by_cases o3:c.Op=3
   ·simp[o3,hn]
   ·by_cases o2:c.Op=2<;>simp[o2,o3,hd]
 ·have hb:(c.Name==([]:ah))=false:=beq_eq_false_iff_ne.2 hn
  by_cases o2:c.Op=2
  ·by_cases hd:c.Day=0<;>simp[o2,hn,hd,dC,hb]
  ·simp[o2,hn,hb]
theorem Lh (c:Condition):bz c→∀so:Nat,so≤15→Oq c (so:Int)=some (if eb c=true∧so+bg c≤15 then ((so+bg c:Nat):Int) else -1):=by
 refine eK (P:=fun c=>bz c→∀so:Nat,so≤15→Oq c (so:Int)=some (if eb c=true∧so+bg c≤15 then ((so+bg c:Nat):Int) else -1)) ?_ c
 intro c ih hc so hso
 rw[eX] at hc
 have hnc:=eA c
 rw[VN]
 unfold vt
 rw[O4,ML c hc.2.1,ct (by omega),uL,zU]
 by_cases h15:so+1≤15
 ·rw[decide_eq_false (by omega),cond_false]
  cases D4 c with
  | false=>rfl
  | true=>
  cases BE c with
  | false=>rfl
  | true=>
   simp only[Bool.not_true,dx,cond_false,Bool.true_and]
   obtain⟨y,h1,h2⟩:=lK (L:=fun i (s:Int)=>kb (aJ kw) c (so:Int) (s,(i:Int))) c.Parts.length
    (fun i s=>s=((so+1+aF (c.Parts.take i):Nat):Int)∧so+1+aF (c.Parts.take i)≤15∧(c.Parts.take i).all eb=true)
    (fun y=>y=if c.Parts.all eb=true∧so+bg c≤15 then .inr ((so+bg c:Nat):Int) else .inl (-1)) (s:=((so+1:Nat):Int))
    (by
     rintro i s hi ⟨hj,hj2,hj3⟩
     have hx:=List.getElem?_eq_getElem hi
     have h3:=vh c.Parts i hi
     have h4:=nV c.Parts (i+1)
     have h5:=ih _ (List.getElem_mem hi) (hc.2.2.2.1.2 _ (List.getElem_mem hi)) (so+1+aF (c.Parts.take i)) hj2
     show (∃s',_∧kb (aJ kw) c (so:Int) (s,(i:Int))=_)∨∃y,_∧kb (aJ kw) c (so:Int) (s,(i:Int))=_
     rw[Ey,jA]
     simp only[bB,decide_eq_true hi,cond_true,bM,hx,Option.bind_some,hj]
     rw[show aJ kw (c.Parts[i],((so+1+aF (c.Parts.take i):Nat):Int))=_ from h5,Option.bind_some,ct (by have:=hc.2.2.2.1.1;omega)]
     by_cases hq:eb c.Parts[i]=true∧so+1+aF (c.Parts.take i)+bg c.Parts[i]≤15
     ·rw[if_pos hq,decide_eq_false (by omega),cond_false]
      refine .inl ⟨_,⟨?_,?_,?_⟩,rfl⟩
      ·congr 1;omega
      ·omega
      ·rw[List.take_add_one,hx,List.all_append,hj3];simp[hq.1]
     ·rw[if_neg hq,decide_eq_true (by omega),cond_true]
      refine .inr ⟨_,?_,rfl⟩
      rw[if_neg]
      rintro⟨h6,h7⟩
      rw[List.all_eq_true] at h6
      exact hq ⟨h6 _ (List.getElem_mem hi),by omega⟩)
    (by
     rintro s ⟨hj,hj2,hj3⟩
     rw[List.take_length] at *
     show ∃y,_∧kb (aJ kw) c (so:Int) (s,(c.Parts.length:Int))=_
     rw[Ey,jA]
     simp only[bB,decide_eq_false (Nat.lt_irrefl _),cond_false]
     refine⟨_,?_,rfl⟩
     rw[if_pos ⟨hj3,by omega⟩,hj]
     congr 2;omega) ⟨by simp[aF],by simp[aF];omega,by simp⟩
   rw[show kb (aJ kw) c (so:Int) (((so+1:Nat):Int),0)=some y from h2,h1]
   by_cases hq:c.Parts.all eb=true∧so+bg c≤15
   ·rw[if_pos hq,if_pos hq];rfl
   ·rw[if_neg hq,if_neg hq];rfl
 ·rw[decide_eq_true (by omega),cond_true,dx,cond_true,if_neg (by omega)]
theorem Ol (c:Condition)(h:bz c):G4 c=some (nH c):=by
 unfold G4 nH
 rw[show (0:Int)=((0:Nat):Int) from rfl,Lh c h 0 (by omega),Option.bind_some]
 have:=eA c
 congr 1
 cases eb c with
 | false=>rfl
 | true=>
  by_cases h:bg c≤15
  ·rw[if_pos ⟨rfl,by omega⟩,decide_eq_true (by omega),decide_eq_true h];rfl
  ·rw[if_neg (by omega),decide_eq_false h];rfl
mutual
def iB:Condition→List ah
 | ⟨op,name,_,parts⟩=>(if op=2 then [name] else [])++dP parts
def dP:List Condition→List ah
 | []=>[]
 | x::xs=>iB x++dP xs
end
theorem EE (c:Condition):iB c=(if c.Op=2 then [c.Name] else [])++dP c.Parts:=by cases c;simp only[iB]
theorem vQ:∀(a b:List Condition),dP (a++b)=dP a++dP b
 | [],b=>rfl
 | x::a,b=>by simp only[List.cons_append,dP,vQ a b,List.append_assoc]
theorem tD (a:List Condition)(i:Nat)(h:i<a.length):dP (a.take (i+1))=dP (a.take i)++iB a[i]:=by
 rw[List.take_add_one,List.getElem?_eq_getElem h,vQ]
 simp[dP]
mutual
theorem CW:∀c,(iB c).length≤bg c
 | ⟨op,name,day,parts⟩=>by
  have:=pQ parts
  simp only[iB,bg,List.length_append]
  split<;>simp<;>omega
theorem pQ:∀a,(dP a).length≤aF a
 | []=>by simp[dP]
 | x::a=>by
  have h1:=CW x
  have h2:=pQ a
  simp only[dP,aF,List.length_append]
  omega
end
theorem K4 (c:Condition):∀l:List ah,l.length+bg c≤1000000→NN c l=some (l++iB c):=by
 refine eK (P:=fun c=>∀l:List ah,l.length+bg c≤1000000→NN c l=some (l++iB c)) ?_ c
 intro c ih l hl
 have hnc:=eA c
 have hpl:=fX c.Parts
 rw[UT]
 unfold vb
 have h0:(bif (c.Op==2) then ((kx 16 l [c.Name]).bind fun a8=>some (.inr a8)) else (some (.inr l)):Option (List ah⊕List ah))=some (.inr (l++if c.Op=2 then [c.Name] else [])):=by
  rw[qO]
  by_cases h:c.Op=2
  ·rw[decide_eq_true h,cond_true,ye (by omega) (by omega),if_pos h];rfl
  ·rw[decide_eq_false h,cond_false,if_neg h,List.append_nil]
 rw[h0,dx]
 have hlen:(l++if c.Op=2 then [c.Name] else []).length≤l.length+1:=by
  rw[List.length_append];split<;>simp
 rw[EE,←List.append_assoc]
 generalize (l++if c.Op=2 then [c.Name] else [])=l1 at hlen ⊢
 obtain⟨y,h1,h2⟩:=lK (L:=fun i (s:List ah)=>lE (aJ lP) c l ((i:Int),s)) c.Parts.length (fun i s=>s=l1++dP (c.Parts.take i)) (fun y=>y=.inr (l1++dP c.Parts)) (s:=l1)
  (by
   intro i s hi hj
   have hx:=List.getElem?_eq_getElem hi
   have h3:=vh c.Parts i hi
   have h4:=nV c.Parts (i+1)
   have h5:=pQ (c.Parts.take i)
   refine .inl ⟨l1++dP (c.Parts.take (i+1)),rfl,?_⟩
   show lE (aJ lP) c l ((i:Int),s)=_
   rw[E5,jh]
   simp only[bB,decide_eq_true hi,cond_true,bM,hx,Option.bind_some]
   rw[show aJ lP (c.Parts[i],s)=_ from ih _ (List.getElem_mem hi) s (by rw[hj,List.length_append];omega),Option.bind_some,ct (by omega),hj,tD _ _ hi,List.append_assoc])
  (by
   intro s hj
   refine⟨_,rfl,?_⟩
   rw[List.take_length] at hj
   show lE (aJ lP) c l ((c.Parts.length:Int),s)=_
   rw[E5,jh]
   simp only[bB,decide_eq_false (Nat.lt_irrefl _),cond_false]
   rw[hj]) (by simp[dP])
 rw[show lE (aJ lP) c l (0,l1)=some y from h2,h1]
 rfl
theorem LU {c:Condition}(h:o9 c=true)(ho:c.Op=2∨c.Op=3):c.Parts=[]:=by
 rw[zU,D4,Lr] at h
 rw[Bool.and_eq_true,Bool.and_eq_true,decide_eq_true_iff] at h
 have:=h.1.2
 rw[if_neg (by omega),if_neg (by omega)] at this
 exact List.length_eq_zero_iff.1 this
theorem KG (c:Condition):eb c=true→∀l:List ah,l.length+bg c≤1000000→l.Pairwise StrL.Lt→∃r,Iy l c=some r∧r.Pairwise StrL.Lt∧(∀x,x∈r↔x∈l∨x∈iB c)∧r.length≤l.length+bg c:=by
 refine eK (P:=fun c=>eb c=true→∀l:List ah,l.length+bg c≤1000000→l.Pairwise StrL.Lt→∃r,Iy l c=some r∧r.Pairwise StrL.Lt∧(∀x,x∈r↔x∈l∨x∈iB c)∧r.length≤l.length+bg c) ?_ c
 intro c ih hf l hl hs
 have hnc:=eA c
 have hpl:=fX c.Parts
 rw[uL,Bool.and_eq_true,List.all_eq_true] at hf
 rw[Uw]
 unfold qR
 rw[qO,EE]
 by_cases ho:c.Op=2
 ·obtain⟨r,e,r1,r2,r3⟩:=StrL.put_val l c.Name (by omega) hs
  rw[decide_eq_true ho,cond_true,e,if_pos ho,LU hf.1 (.inl ho)]
  exact⟨r,rfl,r1,fun x=>by rw[r2];simp[dP],by omega⟩
 rw[decide_eq_false ho,cond_false,if_neg ho,List.nil_append]
 obtain⟨y,h1,h2⟩:=lK (L:=fun i (s:List ah)=>jW (aJ ji) l c ((i:Int),s)) c.Parts.length
  (fun i s=>s.Pairwise StrL.Lt∧(∀x,x∈s↔x∈l∨x∈dP (c.Parts.take i))∧s.length≤l.length+aF (c.Parts.take i))
  (fun y=>∃r,y=.inr r∧r.Pairwise StrL.Lt∧(∀x,x∈r↔x∈l∨x∈dP c.Parts)∧r.length≤l.length+bg c) (s:=l)
  (by
   rintro i s hi ⟨j1,j2,j3⟩
   have hx:=List.getElem?_eq_getElem hi
   have h3:=vh c.Parts i hi
   have h4:=nV c.Parts (i+1)
   obtain⟨r,e,r1,r2,r3⟩:=ih _ (List.getElem_mem hi) (hf.2 _ (List.getElem_mem hi)) s (by omega) j1
   refine .inl ⟨r,⟨r1,fun x=>?_,by omega⟩,?_⟩
   ·rw[r2,j2,tD _ _ hi,List.mem_append,or_assoc]
   show jW (aJ ji) l c ((i:Int),s)=_
   rw[B0,ia]
   simp only[bB,decide_eq_true hi,cond_true,bM,hx,Option.bind_some]
   rw[show aJ ji (s,c.Parts[i])=_ from e,Option.bind_some,ct (by omega)])
  (by
   rintro s ⟨j1,j2,j3⟩
   rw[List.take_length] at *
   refine⟨.inr s,⟨s,rfl,j1,j2,by omega⟩,?_⟩
   show jW (aJ ji) l c ((c.Parts.length:Int),s)=_
   rw[B0,ia]
   simp only[bB,decide_eq_false (Nat.lt_irrefl _),cond_false]) ⟨hs,fun x=>by simp[dP],by simp[aF]⟩
 obtain⟨r,rfl,hr⟩:=h1
 rw[show jW (aJ ji) l c (0,l)=some (.inr r) from h2]
 exact⟨r,rfl,hr⟩
theorem tI (l:List ah)(s:ah)(hl:l.length≤1048576):oO l s=some (l.contains s):=by
 unfold oO yo
 rw[jK (L:=nW l s) (a:=l) (p:=fun e=>some (s==e)) (q:=fun e=>s==e) (fun _ _=>rfl) (fun x=>by rw[CI,jF]<;>rfl) (by omega)]
 cases h:l.findIdx? (fun e=>s==e) with
 | none=>
  have:l.contains s=false:=by
   rw[List.findIdx?_eq_none_iff] at h
   rw[Bool.eq_false_iff]
   intro hc
   rw[List.contains_iff_exists_mem_beq] at hc
   obtain⟨w,hw,he⟩:=hc
   rw[h w hw] at he
   cases he
  rw[this]
  rfl
 | some i=>
  have:l.contains s=true:=by
   rw[List.findIdx?_eq_some_iff_getElem] at h
   obtain⟨hi,he,_⟩:=h
   rw[List.contains_iff_exists_mem_beq]
   exact⟨_,List.getElem_mem hi,he⟩
  rw[this]
  simp
theorem Rj (a b:ah):(a==b)=(b==a):=by
 rw[vf,vf]
 by_cases h:a=b
 ·simp[h]
 ·simp[h,Ne.symm h]
theorem J1 (l:List ah)(s:ah)(hl:l.length≤1048576):sd l s=some (l.contains s):=by
 unfold sd
 rw[qG (L:=qw l s) (a:=l) (p:=fun e=>some (e==s)) (q:=fun e=>e==s) (r:=true) (fun _ _=>rfl) (fun x=>by rw[KS,la]<;>rfl) (by omega)]
 have:(l.any fun e=>e==s)=l.contains s:=by
  rw[List.contains_eq_any_beq]
  congr 1
  funext e
  exact Rj e s
 rw[this]
 cases l.contains s<;>rfl
def Qv (l:List ah)(k:Nat):Bool:=match l[k]? with
 | some e=>!eC e||(l.take k).contains e
 | none=>false
def tN (l:List ah):Nat→Nat→Bool
 | 0,_=>true
 | n+1,k=>!Qv l k&&tN l n (k+1)
theorem xw {α:Type}{l:List α}{k:Nat}(h:k≤l.length):nz l 0 (k:Int)=some (l.take k):=by
 unfold nz
 rw[if_pos (by omega)]
 simp
theorem v6 (l:List ah)(cs:List Clause)(hl:ge kJ l):∀(n k:Nat),k+n=l.length→qn ⟨l,cs⟩ (k:Int)=some (bif tN l n k then .inr () else .inl false)
 | 0,k,hk=>by
  have h1:=hl.1
  rw[Cj,jq]
  simp only[bB]
  rw[decide_eq_false (by omega)]
  rfl
 | n+1,k,hk=>by
  have h1:=hl.1
  obtain⟨e,he⟩:∃e,l[k]?=some e:=⟨_,List.getElem?_eq_getElem (by omega)⟩
  rw[Cj,jq]
  simp only[bB]
  rw[decide_eq_true (by omega)]
  simp only[cond_true,bM,he,Option.bind_some,ni e (hl.2 e (List.mem_of_getElem? he)),xw (show k≤l.length by omega),J1 _ e (show (l.take k).length≤1048576 by rw[List.length_take];omega)]
  rw[ct (by omega),v6 l cs hl n (k+1) (by omega)]
  simp only[tN,Qv,he]
  cases eC e<;>cases (l.take k).contains e<;>rfl
theorem wE (l:List ah)(hl:ge kJ l):∀(n k:Nat),k+n=l.length→tA l (k:Int)=some (bif tN l n k then .inr () else .inl false)
 | 0,k,hk=>by
  have h1:=hl.1
  rw[Fa,kD]
  simp only[bB]
  rw[decide_eq_false (by omega)]
  rfl
 | n+1,k,hk=>by
  have h1:=hl.1
  obtain⟨e,he⟩:∃e,l[k]?=some e:=⟨_,List.getElem?_eq_getElem (by omega)⟩
  rw[Fa,kD]
  simp only[bB]
  rw[decide_eq_true (by omega)]
  simp only[cond_true,bM,he,Option.bind_some,mV e (hl.2 e (List.mem_of_getElem? he)),xw (show k≤l.length by omega),tI _ e (show (l.take k).length≤1048576 by rw[List.length_take];omega)]
  rw[ct (by omega),wE l hl n (k+1) (by omega)]
  simp only[tN,Qv,he]
  cases eC e<;>cases (l.take k).contains e<;>rfl
def nL (l:List ah):Bool:=tN l l.length 0&&dC (len l) 2 4
theorem RY (l:List ah)(cs:List Clause)(hl:ge kJ l):uu ⟨l,cs⟩=some (nL l):=by
 unfold uu nL
 have:=v6 l cs hl l.length 0 (by omega)
 rw[show (0:Int)=((0:Nat):Int) by rfl,this]
 simp only[lc]
 cases tN l l.length 0<;>rfl
theorem Ru (l:List ah)(hl:ge kJ l):GQ l=some (nL l):=by
 unfold GQ nL
 have:=wE l hl l.length 0 (by omega)
 rw[show (0:Int)=((0:Nat):Int) by rfl,this]
 simp only[jO]
 cases tN l l.length 0<;>rfl
def ii (cs:List Clause)(id:ah):Int:=match cs.findIdx? (fun e=>e.Id==id) with
 | some i=>(i:Int)
 | none=>-1
theorem ER (c:Contract)(id:ah)(hl:c.Clauses.length≤1048576):sA c id=some (ii c.Clauses id):=by
 unfold sA ii
 rw[jK (L:=qz c id) (a:=c.Clauses) (p:=fun e=>some (e.Id==id)) (q:=fun e=>e.Id==id) (fun _ _=>rfl) (fun x=>by rw[La,ly]<;>rfl) (by omega)]
 cases c.Clauses.findIdx? (fun e=>e.Id==id)<;>rfl
theorem Ew (c:Contract)(id:ah)(hl:c.Clauses.length≤1048576):Av c id=some (ii c.Clauses id):=by
 unfold Av Ec ii
 rw[jK (L:=qU c.Clauses id) (a:=c.Clauses) (p:=fun e=>some (e.Id==id)) (q:=fun e=>e.Id==id) (fun _ _=>rfl) (fun x=>by rw[L5,kO]<;>rfl) (by omega)]
 cases c.Clauses.findIdx? (fun e=>e.Id==id)<;>rfl
theorem JU (cs:List Clause)(id:ah):ii cs id=-1∨∃j:Nat,ii cs id=(j:Int)∧j<cs.length:=by
 unfold ii
 cases h:cs.findIdx? (fun e=>e.Id==id) with
 | none=>exact .inl rfl
 | some j=>
  rw[List.findIdx?_eq_some_iff_getElem] at h
  exact .inr ⟨j,rfl,h.1⟩
def Gp (cs:List Clause)(i:Int)(e:Clause):Bool:=match ii cs e.Repair with
 | .ofNat k=>match cs[k]? with
  | some e'=>((k:Int) != i)&&((e'.Kind==1)&&(e.Kind != 3))
  | none=>false
 | .negSucc _=>false
def iP (c:Contract)(i:Int)(e:Clause):Bool:=
 eC e.Id&&(eC e.Action&&(dC e.Kind 1 4&&(dC e.Party 0 (ar (len c.Parties - 1))&&(dC e.Other 0 (ar (len c.Parties - 1))&&(!(e.Party==e.Other)&&(nH e.When&&(dC e.Amount 0 1000000&&(dC e.Within 0 400&&(!(bif e.Kind != 1 then (bif e.Amount != 0 then true else e.Within != 0) else false) &&
  (bif e.Repair==[] then true else Gp c.Clauses i e))))))))))
theorem Qa (c:Contract)(i:Int)(e:Clause)(hl:c.Clauses.length≤1048576):((sA c e.Repair).bind fun r8=>aV (ρ:=Bool) (bif (decide (r8≥0)) then (bI (ρ:=Bool) (bif (r8 != i) then ((aI c.Clauses r8).bind fun e11=>b6 (bif (e11.Kind==1) then ((e.Kind != 3)) else (false)) fun u12:Bool=>some (.inr u12)) else (some (.inr false))) fun u10:Bool=>some (.inr u10)) else (some (.inr false))) fun u9:Bool=>some u9)=some (Gp c.Clauses i e):=by
 rw[ER c _ hl,Option.bind_some]
 unfold Gp
 rcases JU c.Clauses e.Repair with h | ⟨j,h,hj⟩
 ·rw[h];rfl
 ·rw[h,decide_eq_true (by omega),cond_true,bM,List.getElem?_eq_getElem hj,Option.bind_some]
  show _=some (match c.Clauses[j]? with | some e'=>_ | none=>false)
  rw[List.getElem?_eq_getElem hj]
  show _=some (((j:Int) != i)&&((c.Clauses[j].Kind==1)&&(e.Kind != 3)))
  cases ((j:Int) != i)<;>cases (c.Clauses[j].Kind==1)<;>rfl
theorem Sc (c:Contract)(i:Int)(e:Clause)(hl:c.Clauses.length≤1048576):((Av c e.Repair).bind fun r10=>aV (ρ:=Bool) (bif (e.Kind != 3) then (bI (ρ:=Bool) (bif (decide (r10≥0)) then (bI (ρ:=Bool) (bif (r10 != i) then ((aI c.Clauses r10).bind fun e14=>some (.inr (e14.Kind==1))) else (some (.inr false))) fun u13:Bool=>some (.inr u13)) else (some (.inr false))) fun u12:Bool=>some (.inr u12)) else (some (.inr false))) fun u11:Bool=>some u11)=some (Gp c.Clauses i e):=by
 rw[Ew c _ hl,Option.bind_some]
 unfold Gp
 rcases JU c.Clauses e.Repair with h | ⟨j,h,hj⟩
 ·rw[h];cases (e.Kind != 3)<;>rfl
 ·rw[h,decide_eq_true (by omega),cond_true,bM,List.getElem?_eq_getElem hj,Option.bind_some]
  show _=some (match c.Clauses[j]? with | some e'=>_ | none=>false)
  rw[List.getElem?_eq_getElem hj]
  show _=some (((j:Int) != i)&&((c.Clauses[j].Kind==1)&&(e.Kind != 3)))
  cases ((j:Int) != i)<;>cases (c.Clauses[j].Kind==1)<;>cases (e.Kind != 3)<;>rfl
theorem I4 (c:Contract)(i:Int)(e:Clause)(he:aI c.Clauses i=some e)(hs:fh e)(hl:c.Clauses.length≤1048576):xG c i=some (iP c i e):=by
 unfold xG iP
 rw[he,Option.bind_some,Qa c i e hl]
 simp only[ni _ hs.1,ni _ hs.2.2.2.1,lc,PU _ hs.2.2.2.2.2.2.1,Option.bind_some,eY]
 cases eC e.Id with | false=>rfl | true=>?_
 cases eC e.Action with | false=>rfl | true=>?_
 cases dC e.Kind 1 4 with | false=>rfl | true=>?_
 cases dC e.Party 0 (ar (len c.Parties - 1)) with | false=>rfl | true=>?_
 cases dC e.Other 0 (ar (len c.Parties - 1)) with | false=>rfl | true=>?_
 cases (e.Party==e.Other) with | true=>rfl | false=>?_
 cases nH e.When with | false=>rfl | true=>?_
 cases dC e.Amount 0 1000000 with | false=>rfl | true=>?_
 cases dC e.Within 0 400 with | false=>rfl | true=>?_
 cases (bif e.Kind != 1 then (bif e.Amount != 0 then true else e.Within != 0) else false) with | true=>rfl | false=>?_
 cases (e.Repair==([]:ah))<;>rfl
theorem I9 (c:Contract)(i:Int)(e:Clause)(he:aI c.Clauses i=some e)(hs:fh e)(hl:c.Clauses.length≤1048576):Ia c i=some ((ii c.Clauses e.Id==i)&&iP c i e):=by
 unfold Ia iP
 rw[he,Option.bind_some,Sc c i e hl]
 simp only[mV _ hs.1,mV _ hs.2.2.2.1,jO,Ol _ hs.2.2.2.2.2.2.1,Option.bind_some,eY,Ew c _ hl,bne]
 cases eC e.Id with | false=>cases (ii c.Clauses e.Id==i)<;>rfl | true=>?_
 cases (ii c.Clauses e.Id==i) with | false=>rfl | true=>?_
 cases eC e.Action with | false=>rfl | true=>?_
 cases dC e.Kind 1 4 with | false=>rfl | true=>?_
 cases dC e.Party 0 (ar (len c.Parties - 1)) with | false=>rfl | true=>?_
 cases dC e.Other 0 (ar (len c.Parties - 1)) with | false=>rfl | true=>?_
 cases (e.Party==e.Other) with | true=>rfl | false=>?_
 cases nH e.When with | false=>rfl | true=>?_
 cases dC e.Amount 0 1000000 with | false=>rfl | true=>?_
 cases dC e.Within 0 400 with | false=>rfl | true=>?_
 cases (bif !(e.Kind==1) then (bif !(e.Amount==0) then true else !(e.Within==0)) else false) with | true=>rfl | false=>?_
 cases (e.Repair==([]:ah))<;>rfl
def pL (c:Contract)(i:Nat):Bool:=match c.Clauses[i]? with
 | some e=>(ii c.Clauses e.Id==(i:Int))&&iP c (i:Int) e
 | none=>true
def gv (c:Contract):Bool:=!((List.range c.Clauses.length).any fun i=>!pL c i)
theorem oV {c:Contract}:gv c=true↔∀(i:Nat) e,c.Clauses[i]?=some e→ii c.Clauses e.Id=(i:Int)∧iP c (i:Int) e=true:=by
 unfold gv
 rw[Bool.not_eq_true',←Bool.not_eq_true,List.any_eq_true]
 constructor
 ·intro h i e he
  have hi:=(List.getElem?_eq_some_iff.1 he).1
  cases h1:pL c i with
  | false=>exact absurd ⟨i,List.mem_range.2 hi,by rw[h1];rfl⟩ h
  | true=>
   simp only[pL,he,Bool.and_eq_true,beq_iff_eq] at h1
   exact h1
 ·rintro h ⟨i,hi,h2⟩
  rw[List.mem_range] at hi
  have h1:=h i _ (List.getElem?_eq_getElem hi)
  simp only[pL,List.getElem?_eq_getElem hi,h1.1,h1.2,beq_self_eq_true,Bool.and_self,Bool.not_true] at h2
  cases h2
theorem H9 (c:Contract)(hc:dX c):jT c 0=some (bif gv c then .inr () else .inl false):=by
 have hl:c.Clauses.length≤1048576:=hc.2.1
 have h:=sD (a:=List.range c.Clauses.length) (q:=fun i=>!pL c i) (y0:=(Sum.inl false:Bool⊕Unit)) (y1:=.inr ()) (L:=fun i=>jT c (i:Int))
  (fun i x hx=>by
   obtain⟨hi,hx'⟩:=List.getElem?_eq_some_iff.1 hx
   rw[List.getElem_range] at hx'
   subst hx'
   rw[List.length_range] at hi
   have he:=List.getElem?_eq_getElem hi
   have hg:aI c.Clauses (i:Int)=some c.Clauses[i]:=by rw[bM,he]
   show jT c (i:Int)=_
   rw[C3,jm,bB,decide_eq_true hi,cond_true,hg,Option.bind_some,ER c _ hl,Option.bind_some,I4 c _ _ hg (hc.2.2 _ (List.getElem_mem hi)) hl,ct (by omega)]
   simp only[pL,he,bne]
   cases (ii c.Clauses c.Clauses[i].Id==(i:Int))<;>cases iP c (i:Int) c.Clauses[i]<;>rfl)
  (by
   rw[List.length_range]
   show jT c (c.Clauses.length:Int)=_
   rw[C3,jm,bB,decide_eq_false (Nat.lt_irrefl _),cond_false])
 rw[show jT c 0=_ from h]
 unfold gv
 cases (List.range c.Clauses.length).any fun i=>!pL c i<;>rfl
theorem Ir (c:Contract)(hc:dX c):lZ c 0=some (bif gv c then .inr () else .inl false):=by
 have hl:c.Clauses.length≤1048576:=hc.2.1
 have h:=sD (a:=List.range c.Clauses.length) (q:=fun i=>!pL c i) (y0:=(Sum.inl false:Bool⊕Unit)) (y1:=.inr ()) (L:=fun i=>lZ c (i:Int))
  (fun i x hx=>by
   obtain⟨hi,hx'⟩:=List.getElem?_eq_some_iff.1 hx
   rw[List.getElem_range] at hx'
   subst hx'
   rw[List.length_range] at hi
   have he:=List.getElem?_eq_getElem hi
   have hg:aI c.Clauses (i:Int)=some c.Clauses[i]:=by rw[bM,he]
   show lZ c (i:Int)=_
   rw[EN,kB,bB,decide_eq_true hi,cond_true,I9 c _ _ hg (hc.2.2 _ (List.getElem_mem hi)) hl,Option.bind_some,ct (by omega)]
   simp only[pL,he])
  (by
   rw[List.length_range]
   show lZ c (c.Clauses.length:Int)=_
   rw[EN,kB,bB,decide_eq_false (Nat.lt_irrefl _),cond_false])
 rw[show lZ c 0=_ from h]
 unfold gv
 cases (List.range c.Clauses.length).any fun i=>!pL c i<;>rfl
def gJ (cs:List Clause):List ah:=cs.flatMap fun e=>e.Action::iB e.When
theorem Ik {c:Contract}{i:Int}{e:Clause}(h:iP c i e=true):nH e.When=true:=by
 simp only[iP,Bool.and_eq_true] at h
 exact h.2.2.2.2.2.2.1
theorem pU (cs:List Clause)(i:Nat)(h:i<cs.length):gJ (cs.take (i+1))=gJ (cs.take i)++(cs[i].Action::iB cs[i].When):=by
 unfold gJ
 rw[List.take_add_one,List.getElem?_eq_getElem h,List.flatMap_append]
 simp
theorem xz (c:Contract)(hc:dX c)(h12:c.Clauses.length≤12)(hv:gv c=true):∃r,nu c=some r∧vS c=some r∧r.Pairwise StrL.Lt∧(∀x,x∈r↔x∈gJ c.Clauses)∧r.length≤1000:=by
 have hcond:∀i (hi:i<c.Clauses.length),eb c.Clauses[i].When=true∧bg c.Clauses[i].When≤15:=fun i hi=>by
  have h1:=Ik (oV.1 hv i _ (List.getElem?_eq_getElem hi)).2
  unfold nH at h1
  rw[Bool.and_eq_true,decide_eq_true_iff] at h1
  exact h1
 have hs:∃r,nu c=some r∧r.Pairwise StrL.Lt∧(∀x,x∈r↔x∈gJ c.Clauses)∧r.length≤16*c.Clauses.length:=by
  obtain⟨y,⟨r,rfl,hr⟩,h2⟩:=lK (L:=fun i (s:List ah)=>kX c ((i:Int),s)) c.Clauses.length
   (fun i s=>s.Pairwise StrL.Lt∧(∀x,x∈s↔x∈gJ (c.Clauses.take i))∧s.length≤16*i)
   (fun y=>∃r,y=.inr r∧r.Pairwise StrL.Lt∧(∀x,x∈r↔x∈gJ c.Clauses)∧r.length≤16*c.Clauses.length) (s:=[])
   (by
    rintro i s hi ⟨j1,j2,j3⟩
    have he:=List.getElem?_eq_getElem hi
    obtain⟨f1,f2⟩:=hcond i hi
    obtain⟨r1,e1,p1,m1,l1⟩:=StrL.put_val s c.Clauses[i].Action (by omega) j1
    obtain⟨r2,e2,p2,m2,l2⟩:=KG _ f1 r1 (by omega) p1
    refine .inl ⟨r2,⟨p2,fun x=>?_,by omega⟩,?_⟩
    ·rw[m2,m1,j2,pU _ _ hi,List.mem_append,List.mem_cons,or_assoc]
    ·show kX c ((i:Int),s)=_
     rw[zL,jv]
     simp only[bB,decide_eq_true hi,cond_true,bM,he,Option.bind_some,e1,e2]
     rw[ct (by omega)])
   (by
    rintro s ⟨j1,j2,j3⟩
    rw[List.take_length] at j2
    refine⟨.inr s,⟨s,rfl,j1,j2,j3⟩,?_⟩
    show kX c ((c.Clauses.length:Int),s)=_
    rw[zL,jv]
    simp only[bB,decide_eq_false (Nat.lt_irrefl _),cond_false]) ⟨List.Pairwise.nil,fun x=>by simp[gJ],by simp⟩
  refine⟨r,?_,hr⟩
  unfold nu
  rw[show kX c (0,[])=some (.inr r) from h2]
  rfl
 obtain⟨r,e,p,m,l⟩:=hs
 refine⟨r,e,?_,p,m,by omega⟩
 obtain⟨y,h1,h2⟩:=lK (L:=fun i (s:List ah)=>ng c ((i:Int),s)) c.Clauses.length
  (fun i s=>s=gJ (c.Clauses.take i)∧s.length≤16*i) (fun y=>y=.inr (gJ c.Clauses)∧(gJ c.Clauses).length≤16*c.Clauses.length) (s:=[])
  (by
   rintro i s hi ⟨j1,j2⟩
   have he:=List.getElem?_eq_getElem hi
   obtain⟨f1,f2⟩:=hcond i hi
   have hlen:=CW c.Clauses[i].When
   refine .inl ⟨gJ (c.Clauses.take (i+1)),⟨rfl,?_⟩,?_⟩
   ·rw[pU _ _ hi,←j1,List.length_append,List.length_cons];omega
   ·show ng c ((i:Int),s)=_
    rw[EU,kG]
    simp only[bB,decide_eq_true hi,cond_true,bM,he,Option.bind_some]
    rw[ye (by omega) (by omega),Option.bind_some,K4 _ _ (by rw[List.length_append,List.length_singleton];omega),Option.bind_some,ct (by omega),pU _ _ hi,←j1,List.append_assoc]
    try rfl)
  (by
   rintro s ⟨j1,j2⟩
   rw[List.take_length] at j1
   refine⟨_,⟨rfl,by rw[←j1];exact j2⟩,?_⟩
   show ng c ((c.Clauses.length:Int),s)=_
   rw[EU,kG]
   simp only[bB,decide_eq_false (Nat.lt_irrefl _),cond_false]
   rw[j1]) ⟨by simp[gJ],by simp⟩
 unfold vS
 rw[show ng c (0,[])=some y from h2,h1.1,dx,Ub _ r (by omega) p m]
 rfl
noncomputable def lY (c:Contract):Bool:=(dC (len c.Clauses) 1 12&&nL c.Parties)&&(gv c&&(match nu c with | some r=>decide (len r≤16) | none=>false))
theorem sQ (c:Contract)(hc:dX c):yu c=some (lY c):=by
 unfold yu lY
 have hp:=RY c.Parties c.Clauses hc.1
 rw[lc,show uu c=_ from hp,H9 c hc,Option.bind_some]
 cases h1:dC (len c.Clauses) 1 12 with | false=>rfl | true=>?_
 cases nL c.Parties with | false=>rfl | true=>?_
 cases h2:gv c with | false=>rfl | true=>?_
 rw[mC] at h1
 obtain⟨r,e,_⟩:=xz c hc (by simp only[len] at h1;omega) h2
 rw[e]
 rfl
theorem sN (c:Contract)(hc:dX c):Gr c=some (lY c):=by
 unfold Gr lY
 rw[Ru c.Parties hc.1,Ir c hc,Option.bind_some,jO]
 cases h1:dC (len c.Clauses) 1 12 with | false=>cases nL c.Parties<;>rfl | true=>?_
 cases nL c.Parties with | false=>rfl | true=>?_
 cases h2:gv c with | false=>rfl | true=>?_
 rw[mC] at h1
 obtain⟨r,e,e2,_⟩:=xz c hc (by simp only[len] at h1;omega) h2
 rw[e,e2]
 rfl
theorem Gq {c:Contract}(h:lY c=true):1≤c.Clauses.length∧c.Clauses.length≤12∧nL c.Parties=true∧∀(i:Nat) e,c.Clauses[i]?=some e→ii c.Clauses e.Id=(i:Int)∧iP c (i:Int) e=true:=by
 simp only[lY,Bool.and_eq_true,mC] at h
 obtain⟨⟨⟨h1,h2⟩,h3⟩,h4,_⟩:=h
 simp only[len] at h1 h2
 exact⟨by omega,by omega,h3,oV.1 h4⟩
theorem uc {α:Type}{L:Int→Option (Int⊕Unit)}{a:List α}{q:α→Bool}(h:L 0=some (match a.findIdx? q with | some i=>.inl (i:Int) | none=>.inr ())):((aV (ρ:=Int) (L 0) fun _:Unit=>some (-1)).bind fun r=>some (decide (r≥0)))=some (a.any q):=by
 rw[h]
 cases h1:a.findIdx? q with
 | none=>
  have:a.any q=false:=by
   rw[List.findIdx?_eq_none_iff] at h1
   rw[List.any_eq_false]
   intro x hx
   rw[h1 x hx]
   exact Bool.false_ne_true
  rw[this]
  rfl
 | some i=>
  have:a.any q=true:=by
   rw[List.findIdx?_eq_some_iff_getElem] at h1
   obtain⟨hi,he,_⟩:=h1
   rw[List.any_eq_true]
   exact⟨_,List.getElem_mem hi,he⟩
  rw[this]
  simp
def qf (l:List ah)(k:Nat):Bool:=match l[k]? with
 | some e=>eC e&&(match k with
  | 0=>true
  | j+1=>match l[j]? with
   | some p=>Op.bytesLess p e
   | none=>true)
 | none=>true
def lF (l:List ah):Bool:=decide (l.length≤16) && !((List.range l.length).any fun k=>!qf l k)
theorem V7 (a b:ah):(Op.bytesLess b a||b==a)=!Op.bytesLess a b:=by
 rcases StrL.tri a b with h | h | h
 ·have h2:Op.bytesLess b a=false:=Bool.eq_false_iff.2 fun h3=>StrL.Lt.asymm h h3
  have h3:(b==a)=false:=beq_eq_false_iff_ne.2 fun e=>StrL.Lt.ne h e.symm
  rw[h2,h3,show Op.bytesLess a b=true from h];rfl
 ·subst h
  rw[StrL.lt_irrefl,beq_self_eq_true];rfl
 ·have h2:Op.bytesLess a b=false:=Bool.eq_false_iff.2 fun h3=>StrL.Lt.asymm h h3
  rw[h2,show Op.bytesLess b a=true from h];rfl
theorem sP (l:List ah)(hl:ge kJ l)(k:Nat)(hk:k<l.length)(hk16:k≤16):gh l (k:Int)=bif !qf l k then some (.inl false) else gh l ((k+1:Nat):Int):=by
 have he:=List.getElem?_eq_getElem hk
 have hlen:l.length≤1048576:=hl.1
 rw[sb,gZ,bB,decide_eq_true hk,cond_true,decide_eq_true (by omega),eY,cond_true,bM,he,Option.bind_some,ni _ (hl.2 _ (List.getElem_mem hk)),Option.bind_some,ct (by omega)]
 cases k with
 | zero=>
  simp only[qf,he]
  cases eC l[0]<;>rfl
 | succ j=>
  have hj:j<l.length:=by omega
  rw[decide_eq_true (by omega),cond_true,show ar (((j+1:Nat):Int) - 1)=(j:Int) by rw[iD (by omega) (by omega)];omega,bM,List.getElem?_eq_getElem hj,Option.bind_some]
  simp only[qf,he,List.getElem?_eq_getElem hj,Option.bind_some]
  cases eC l[j+1]<;>cases Op.bytesLess l[j] l[j+1]<;>rfl
theorem Fg (l:List ah)(hl:ge kJ l)(k:Nat)(hk:k<l.length):lT l (k:Int)=bif !qf l k then some (.inl false) else lT l ((k+1:Nat):Int):=by
 have he:=List.getElem?_eq_getElem hk
 have hlen:l.length≤1048576:=hl.1
 rw[E9,kA,bB,decide_eq_true hk,cond_true,bM,he,Option.bind_some,mV _ (hl.2 _ (List.getElem_mem hk)),Option.bind_some,ct (by omega)]
 cases k with
 | zero=>
  simp only[qf,he]
  cases eC l[0]<;>rfl
 | succ j=>
  have hj:j<l.length:=by omega
  rw[decide_eq_true (by omega),cond_true,show ar (((j+1:Nat):Int) - 1)=(j:Int) by rw[iD (by omega) (by omega)];omega,bM,List.getElem?_eq_getElem hj,Option.bind_some,V7]
  simp only[qf,he,List.getElem?_eq_getElem hj]
  cases eC l[j+1]<;>cases Op.bytesLess l[j] l[j+1]<;>rfl
theorem mU {L:Nat→Option (Bool⊕Unit)}{n:Nat}{q:Nat→Bool}(hs:∀k,k<n→L k=bif q k then some (.inl false) else L (k+1))(he:L n=some (.inr ())):L 0=some (if (List.range n).any q then .inl false else .inr ()):=by
 refine sD (a:=List.range n) (q:=q) (y0:=(Sum.inl false:Bool⊕Unit)) (y1:=.inr ()) (L:=L) (fun i x hx=>?_) (by rw[List.length_range];exact he)
 obtain⟨hi,hx'⟩:=List.getElem?_eq_some_iff.1 hx
 rw[List.getElem_range] at hx'
 subst hx'
 rw[List.length_range] at hi
 exact hs i hi
theorem L6 (l:List ah)(hl:ge kJ l):HT l=some (lF l):=by
 have hlen:l.length≤1048576:=hl.1
 have h:=mU (L:=fun k=>lT l (k:Int)) (n:=l.length) (q:=fun k=>!qf l k) (fun k hk=>Fg l hl k hk) (by
  show lT l (l.length:Int)=_
  rw[E9,kA,bB,decide_eq_false (Nat.lt_irrefl _),cond_false])
 unfold HT
 rw[show lT l 0=_ from h]
 unfold lF
 have h16:decide (len l≤16)=decide (l.length≤16):=by
  have:(len l≤16)↔l.length≤16:=by unfold len;omega
  simp only[this]
 cases (List.range l.length).any fun k=>!qf l k<;>simp[h16]
theorem Lw (l:List ah)(hl:ge kJ l):yk l=some (lF l):=by
 have hlen:l.length≤1048576:=hl.1
 have h16:decide (len l≤16)=decide (l.length≤16):=by
  have:(len l≤16)↔l.length≤16:=by unfold len;omega
  simp only[this]
 unfold yk
 by_cases hm:l.length≤16
 ·have h:=mU (L:=fun k=>gh l (k:Int)) (n:=l.length) (q:=fun k=>!qf l k) (fun k hk=>sP l hl k hk (by omega)) (by
   show gh l (l.length:Int)=_
   rw[sb,gZ,bB,decide_eq_false (Nat.lt_irrefl _),cond_false,eY,cond_false])
  rw[show gh l 0=_ from h]
  unfold lF
  cases (List.range l.length).any fun k=>!qf l k<;>simp[h16]
 ·have h:=mU (L:=fun k=>gh l (k:Int)) (n:=17) (q:=fun k=>!qf l k) (fun k hk=>sP l hl k (by omega) (by omega)) (by
   show gh l ((17:Nat):Int)=_
   rw[sb,gZ,bB]
   by_cases h17:17<l.length
   ·rw[decide_eq_true h17];rfl
   ·rw[decide_eq_false h17];rfl)
  rw[show gh l 0=_ from h]
  unfold lF
  rw[h16,decide_eq_false hm]
  cases (List.range 17).any fun k=>!qf l k<;>rfl
def tt (c:Contract)(i:ah):Bool:=c.Clauses.any fun x=>x.Repair==i
theorem R8 (c:Contract)(i:Int)(e:Clause)(he:aI c.Clauses i=some e)(hl:c.Clauses.length≤1048576):xD c i=some (tt c e.Id):=by
 unfold xD
 rw[qG (L:=pY c i) (a:=c.Clauses) (p:=fun x=>some (x.Repair==e.Id)) (q:=fun x=>x.Repair==e.Id) (r:=true) (fun _ _=>rfl) (fun x=>by rw[KP,kM];simp only[he,Option.bind_some]) (by omega)]
 unfold tt
 cases c.Clauses.any fun x=>x.Repair==e.Id<;>rfl
theorem QG (c:Contract)(i:Int)(e:Clause)(he:aI c.Clauses i=some e)(hl:c.Clauses.length≤1048576):Im c i=some (tt c e.Id):=by
 unfold Im En Ei
 rw[uc (jK (L:=qT c.Clauses (c,i)) (a:=c.Clauses) (p:=fun x=>Io x c i) (q:=fun x=>x.Repair==e.Id) (fun x _=>by rw[Io,he];rfl) (fun x=>by rw[KZ,kU]) (by omega))]
 rfl
theorem RQ (s:State)(i:Int)(hl:s.Duties.length≤1048576):yI s i=some ((s.Duties.countP (fun d=>d.Clause==i):Nat):Int):=by
 unfold yI
 obtain⟨y,rfl,h⟩:=lK (L:=fun k (n:Int)=>jX s i (n,(k:Int))) s.Duties.length (fun k n=>n=(((s.Duties.take k).countP (fun d=>d.Clause==i):Nat):Int)) (fun y=>y=.inr ((s.Duties.countP (fun d=>d.Clause==i):Nat):Int)) (s:=0)
  (by
   rintro k n hk rfl
   have hx:=List.getElem?_eq_getElem hk
   refine .inl ⟨_,rfl,?_⟩
   show jX s i (_,(k:Int))=jX s i (_,((k+1:Nat):Int))
   rw[Dr,jd]
   simp only[bB,decide_eq_true hk,cond_true,bM,hx,Option.bind_some,eY]
   rw[show ar ((k:Int)+1)=((k+1:Nat):Int) from ct (by omega)]
   have h1:(s.Duties.take (k+1)).countP (fun d=>d.Clause==i)=(s.Duties.take k).countP (fun d=>d.Clause==i)+if (s.Duties[k].Clause==i)=true then 1 else 0:=by
    rw[List.take_add_one,hx,List.countP_append,Option.toList_some,List.countP_singleton]
   have h2:=List.countP_le_length (l:=s.Duties.take k) (p:=fun d=>d.Clause==i)
   rw[List.length_take] at h2
   rw[h1]
   cases h3:s.Duties[k].Clause==i with
   | false=>simp
   | true=>rw[cond_true,iD (by omega) (by omega)];simp)
  (by
   rintro n rfl
   refine⟨_,rfl,?_⟩
   show jX s i (_,(s.Duties.length:Int))=_
   rw[Dr,jd]
   simp only[bB,decide_eq_false (Nat.lt_irrefl _),cond_false,List.take_length]) (by simp)
 rw[show jX s i (0,0)=_ from h]
 rfl
theorem MW {α:Type}(l:List α)(i:Int)(hl:l.length≤1048576):dC i 0 (ar (len l - 1))=(aI l i).isSome:=by
 unfold len
 rw[iD (by omega) (by omega)]
 unfold dC aI
 by_cases h0:0≤i
 ·rw[if_pos h0,decide_eq_true h0,Bool.true_and]
  by_cases h1:i≤(l.length:Int) - 1
  ·rw[decide_eq_true h1,List.getElem?_eq_getElem (by omega)];rfl
  ·rw[decide_eq_false h1,List.getElem?_eq_none (by omega)];rfl
 ·rw[if_neg h0,decide_eq_false h0];rfl
def nU (D:List Duty)(k:Nat)(d:Duty):Bool:=match k with
 | 0=>false
 | j+1=>match D[j]? with
  | some p=>decide (p.Since>d.Since)
  | none=>false
def ku (s:State)(d:Duty):Bool:=bif d.Status==1 then (decide (d.Due≥s.Day) && !s.Over) else bif d.Status==2 then true else bif d.Status==3 then decide (d.Due<s.Day) else bif d.Status==4 then s.Over else false
def U8 (s:State)(d:Duty)(e:Clause):Bool:=(e.Kind==1)&&(dC d.Since 0 s.Day&&((d.Due==ar (d.Since+e.Within))&&dC d.Due 0 36524))
def uZ (c:Contract)(s:State)(k:Nat)(d:Duty):Bool:=match aI c.Clauses d.Clause with
 | some e=>U8 s d e&&(!nU s.Duties k d&&ku s d)
 | none=>false
def sx (c:Contract)(i:Int):Bool:=match aI c.Clauses i with
 | some e=>tt c e.Id
 | none=>false
theorem XI {s:State}{d:Duty}(h:ku s d=true):dC d.Status 1 4=true:=by
 unfold ku at h
 rw[mC]
 cases h1:d.Status==1 with
 | true=>have:=eq_of_beq h1;omega
 | false=>
  cases h2:d.Status==2 with
  | true=>have:=eq_of_beq h2;omega
  | false=>
   cases h3:d.Status==3 with
   | true=>have:=eq_of_beq h3;omega
   | false=>
    cases h4:d.Status==4 with
    | true=>have:=eq_of_beq h4;omega
    | false=>rw[h1,h2,h3,h4] at h;cases h
theorem VA (s:State)(d:Duty)(h:dC d.Status 1 4=true):(bif d.Status==1 then (bif decide (d.Due<s.Day) then true else (bif s.Over then true else (bif d.Status==3 then (bif decide (d.Due≥s.Day) then true else (bif d.Status==4 then !s.Over else false)) else (bif d.Status==4 then !s.Over else false)))) else (bif d.Status==3 then (bif decide (d.Due≥s.Day) then true else (bif d.Status==4 then !s.Over else false)) else (bif d.Status==4 then !s.Over else false)))=!ku s d:=by
 rw[mC] at h
 unfold ku
 have hd:decide (d.Due≥s.Day)=!decide (d.Due<s.Day):=by
  by_cases h2:d.Due<s.Day
  ·rw[decide_eq_true h2,decide_eq_false (by omega)];rfl
  ·rw[decide_eq_false h2,decide_eq_true (by omega)];rfl
 rw[hd]
 generalize decide (d.Due<s.Day)=x
 have h4:d.Status=1∨d.Status=2∨d.Status=3∨d.Status=4:=by omega
 rcases h4 with h4 | h4 | h4 | h4<;>rw[h4]<;>cases x<;>cases s.Over<;>rfl
theorem OS (c:Contract)(s:State)(k:Nat)(hk:k<s.Duties.length)(hl:s.Duties.length≤1048576)(hc:c.Clauses.length≤1048576) :
  xb c s (k:Int)=some (uZ c s k s.Duties[k]&&(sx c s.Duties[k].Clause||s.Duties.countP (fun d=>d.Clause==s.Duties[k].Clause)==1)):=by
 have he:=List.getElem?_eq_getElem hk
 unfold xb
 rw[bM,he,Option.bind_some]
 have hp:∀(f:Bool→Option (Bool⊕Bool)) (g:Duty→Option (Bool⊕Bool)) ,(∀p,g p=f (decide (p.Since>s.Duties[k].Since)))→(bif decide ((k:Int)>0) then ((aI s.Duties (ar ((k:Int) - 1))).bind g) else f false)=f (nU s.Duties k s.Duties[k]):=by
  intro f g hg
  cases k with
  | zero=>rfl
  | succ j=>
   have hj:j<s.Duties.length:=by omega
   rw[decide_eq_true (by omega),cond_true,show ar (((j+1:Nat):Int) - 1)=(j:Int) by rw[iD (by omega) (by omega)];omega,bM,List.getElem?_eq_getElem hj,Option.bind_some,hg]
   simp only[nU,List.getElem?_eq_getElem hj]
 generalize s.Duties[k]=d at *
 rw[lc,Option.bind_some,MW _ _ hc]
 unfold uZ
 cases hg:aI c.Clauses d.Clause with
 | none=>rfl
 | some e=>
  rw[Option.isSome_some]
  simp only[Bool.not_true,cond_false,Option.bind_some,lc,oM]
  unfold U8
  cases h1:e.Kind==1 with
  | false=>rw[bne,h1];rfl
  | true=>
   rw[bne,h1]
   cases h2:dC d.Since 0 s.Day with
   | false=>rfl
   | true=>
    cases h3:d.Due==ar (d.Since+e.Within) with
    | false=>rw[bne,h3];rfl
    | true=>
     rw[bne,h3]
     cases h4:dC d.Due 0 36524 with
     | false=>rfl
     | true=>
      cases h5:dC d.Status 1 4 with
      | false=>
       have:ku s d=false:=Bool.eq_false_iff.2 fun h=>by rw[XI h] at h5;cases h5
       rw[this]
       simp
      | true=>
       simp only[Bool.not_true,cond_false,fu,dx,eY,VA s d h5]
       rw[show (bif decide ((k:Int)>0) then (aI s.Duties (ar ((k:Int) - 1))).bind (fun e11=>(some (.inr (bif decide (e11.Since>d.Since) then true else !ku s d)):Option (Bool⊕Bool))) else some (.inr (!ku s d)))=some (.inr (bif nU s.Duties k d then true else !ku s d)) from hp (fun b=>some (.inr (bif b then true else !ku s d))) _ (fun p=>rfl)]
       rw[dx]
       rw[show sx c d.Clause=tt c e.Id by unfold sx;rw[hg],R8 c _ e hg hc,RQ s _ hl]
       have hcn:∀n:Nat,((n:Int)==1)=(n==1):=fun n=>by
        by_cases h:n=1
        ·subst h;rfl
        ·rw[beq_eq_false_iff_ne.2 h,beq_eq_false_iff_ne.2 (by omega)]
       simp only[Option.bind_some,hcn]
       generalize (List.countP (fun d_1=>d_1.Clause==d.Clause) s.Duties==1)=z
       cases nU s.Duties k d<;>cases ku s d<;>cases tt c e.Id<;>cases z<;>rfl
def oY (D:List Duty)(k:Nat)(i:Int):Bool:=(D.take k).any fun o=>o.Clause==i
theorem Po (c:Contract)(s:State)(k:Nat)(hk:k<s.Duties.length)(hl:s.Duties.length≤1048576)(hc:c.Clauses.length≤1048576) :
  Hj c s (k:Int)=some (uZ c s k s.Duties[k]&&(sx c s.Duties[k].Clause || !oY s.Duties k s.Duties[k].Clause)):=by
 have he:=List.getElem?_eq_getElem hk
 unfold Hj
 rw[bM,he,Option.bind_some]
 have hp:∀(f:Bool→Option (Bool⊕Bool)) (g:Duty→Option (Bool⊕Bool)) ,(∀p,g p=f (decide (p.Since>s.Duties[k].Since)))→(bif decide ((k:Int)>0) then ((aI s.Duties (ar ((k:Int) - 1))).bind g) else f false)=f (nU s.Duties k s.Duties[k]):=by
  intro f g hg
  cases k with
  | zero=>rfl
  | succ j=>
   have hj:j<s.Duties.length:=by omega
   rw[decide_eq_true (by omega),cond_true,show ar (((j+1:Nat):Int) - 1)=(j:Int) by rw[iD (by omega) (by omega)];omega,bM,List.getElem?_eq_getElem hj,Option.bind_some,hg]
   simp only[nU,List.getElem?_eq_getElem hj]
 generalize s.Duties[k]=d at *
 rw[jO,Option.bind_some,MW _ _ hc]
 unfold uZ
 cases hg:aI c.Clauses d.Clause with
 | none=>rfl
 | some e=>
  rw[Option.isSome_some]
  simp only[Bool.not_true,cond_false,Option.bind_some,jO,me]
  unfold U8
  cases h1:e.Kind==1 with
  | false=>rw[bne,h1];rfl
  | true=>
   rw[bne,h1]
   cases h2:dC d.Since 0 s.Day with
   | false=>rfl
   | true=>
    cases h3:d.Due==ar (d.Since+e.Within) with
    | false=>rw[bne,h3];rfl
    | true=>
     rw[bne,h3]
     cases h4:dC d.Due 0 36524 with
     | false=>rfl
     | true=>
      simp only[Bool.not_true,cond_false,fu,dx]
      rw[show (bif decide ((k:Int)>0) then (aI s.Duties (ar ((k:Int) - 1))).bind (fun e17=>(some (.inr (decide (d.Since<e17.Since))):Option (Bool⊕Bool))) else some (.inr false))=some (.inr (nU s.Duties k d)) from hp (fun b=>some (.inr b)) _ (fun p=>rfl)]
      simp only[fu,dx]
      cases nU s.Duties k d with
      | true=>rfl
      | false=>
       rw[cond_false,QG c _ e hg hc,Option.bind_some,xw (by omega),Option.bind_some]
       unfold Ep Du
       rw[uc (jK (L:=ri (s.Duties.take k) d) (a:=s.Duties.take k) (p:=fun x=>J5 x d) (q:=fun o=>o.Clause==d.Clause) (fun x _=>rfl) (fun x=>by rw[L3,kP]) (by rw[List.length_take];omega))]
       rw[show sx c d.Clause=tt c e.Id by unfold sx;rw[hg]]
       unfold oY ku
       cases tt c e.Id<;>cases ((s.Duties.take k).any fun o=>o.Clause==d.Clause)<;>cases (d.Status==1)<;>cases (d.Status==2)<;>cases (d.Status==3)<;>cases (d.Status==4)<;>cases s.Over<;>cases decide (d.Due≥s.Day)<;>cases decide (d.Due<s.Day)<;>rfl
def nE (c:Contract)(s:State)(k:Nat):Bool:=match s.Duties[k]? with
 | some d=>uZ c s k d&&(sx c d.Clause||s.Duties.countP (fun o=>o.Clause==d.Clause)==1)
 | none=>true
def nM (c:Contract)(s:State)(k:Nat):Bool:=match s.Duties[k]? with
 | some d=>uZ c s k d&&(sx c d.Clause || !oY s.Duties k d.Clause)
 | none=>true
theorem EB (D:List Duty)(k:Nat)(hk:k<D.length)(p:Duty→Bool):D.countP p=(D.take k).countP p+((if p D[k]=true then 1 else 0)+(D.drop (k+1)).countP p):=by
 conv=>lhs;rw[←List.take_append_drop k D,List.drop_eq_getElem_cons hk]
 rw[List.countP_append,List.countP_cons]
 omega
theorem NV (c:Contract)(s:State):((List.range s.Duties.length).any fun k=>!nE c s k)=((List.range s.Duties.length).any fun k=>!nM c s k):=by
 have key:(∀k,k<s.Duties.length→nE c s k=true)↔(∀k,k<s.Duties.length→nM c s k=true):=by
  constructor
  ·intro h k hk
   have h1:=h k hk
   unfold nE at h1
   unfold nM
   rw[List.getElem?_eq_getElem hk] at h1 ⊢
   simp only[Bool.and_eq_true,Bool.or_eq_true,beq_iff_eq] at h1 ⊢
   refine⟨h1.1,h1.2.imp id fun h2=>?_⟩
   have h3:=EB s.Duties k hk (fun o=>o.Clause==s.Duties[k].Clause)
   rw[if_pos (by simp),h2] at h3
   have h4:(s.Duties.take k).countP (fun o=>o.Clause==s.Duties[k].Clause)=0:=by omega
   rw[List.countP_eq_zero] at h4
   rw[Bool.not_eq_true',oY,List.any_eq_false]
   exact h4
  ·intro h k hk
   have h1:=h k hk
   unfold nM at h1
   unfold nE
   rw[List.getElem?_eq_getElem hk] at h1 ⊢
   simp only[Bool.and_eq_true,Bool.or_eq_true,beq_iff_eq] at h1 ⊢
   refine⟨h1.1,?_⟩
   cases hd:sx c s.Duties[k].Clause with
   | true=>exact .inl rfl
   | false=>
    refine .inr ?_
    have h2:oY s.Duties k s.Duties[k].Clause=false:=by
     rcases h1.2 with h2 | h2
     ·rw[hd] at h2;cases h2
     ·simpa using h2
    rw[EB s.Duties k hk (fun o=>o.Clause==s.Duties[k].Clause),if_pos (by simp)]
    have e1:(s.Duties.take k).countP (fun o=>o.Clause==s.Duties[k].Clause)=0:=by
     rw[List.countP_eq_zero]
     rw[oY,List.any_eq_false] at h2
     exact h2
    have e2:(s.Duties.drop (k+1)).countP (fun o=>o.Clause==s.Duties[k].Clause)=0:=by
     rw[List.countP_eq_zero]
     intro x hx hq
     obtain⟨j,hj,rfl⟩:=List.mem_iff_getElem.1 hx
     rw[List.length_drop] at hj
     rw[List.getElem_drop] at hq
     have h5:=h (k+1+j) (by omega)
     unfold nM at h5
     rw[List.getElem?_eq_getElem (by omega)] at h5
     simp only[Bool.and_eq_true,Bool.or_eq_true] at h5
     rw[beq_iff_eq] at hq
     rw[hq,hd] at h5
     have h6:oY s.Duties (k+1+j) s.Duties[k].Clause=true:=by
      rw[oY,List.any_eq_true]
      refine⟨s.Duties[k],?_,by simp⟩
      rw[List.mem_iff_getElem]
      exact⟨k,by rw[List.length_take];omega,by rw[List.getElem_take]⟩
     rw[h6] at h5
     simp at h5
    omega
 rw[Bool.eq_iff_iff,List.any_eq_true,List.any_eq_true]
 have k2:=not_congr key
 simp only[Classical.not_forall] at k2
 simp only[List.mem_range,Bool.not_eq_true']
 constructor
 ·rintro⟨k,hk,hq⟩
  obtain⟨j,hj,hq2⟩:=k2.1 ⟨k,hk,by simp[hq]⟩
  exact⟨j,hj,by simpa using hq2⟩
 ·rintro⟨k,hk,hq⟩
  obtain⟨j,hj,hq2⟩:=k2.2 ⟨k,hk,by simp[hq]⟩
  exact⟨j,hj,by simpa using hq2⟩
def rC (x:Int):Bool:=dC x (-1000000000) 1000000000
theorem WT (l:List Int)(hl:l.length≤1048576):∃v,rY l=some v∧Eu l=some v:=by
 have h:∃v,iJ l (0,0)=some (.inr v):=by
  obtain⟨y,⟨v,rfl⟩,h⟩:=lK (L:=fun k (n:Int)=>iJ l (n,(k:Int))) l.length (fun k n=>True) (fun y=>∃v,y=.inr v) (s:=0)
   (by
    intro k n hk _
    refine .inl ⟨ar (n+l[k]),trivial,?_⟩
    show iJ l (_,(k:Int))=iJ l (_,((k+1:Nat):Int))
    rw[CT,i8]
    simp only[bB,decide_eq_true hk,cond_true,bM,List.getElem?_eq_getElem hk,Option.bind_some]
    rw[show ar ((k:Int)+1)=((k+1:Nat):Int) from ct (by omega)])
   (by
    intro n _
    refine⟨.inr n,⟨n,rfl⟩,?_⟩
    show iJ l (_,(l.length:Int))=_
    rw[CT,i8]
    simp only[bB,decide_eq_false (Nat.lt_irrefl _),cond_false]) trivial
  exact⟨v,h⟩
 obtain⟨v,h⟩:=h
 refine⟨v,?_,?_⟩
 ·unfold rY;rw[h];rfl
 ·unfold Eu;rw[show IB l (0,0)=iJ l (0,0) from rfl,h];rfl
structure StF (c:Contract) (s:State) (names:List ah):Prop where
 day:dC s.Day 0 36524=true
 facts:lF s.Facts=true
 sub:s.Facts.all (fun f=>names.contains f)=true
 dl:s.Duties.length≤24
 bl:s.Balances.length=c.Parties.length
 dut:∀k,k<s.Duties.length→nE c s k=true
 amt:s.Balances.all rC=true
 sum:rY s.Balances=some 0
noncomputable def tR (c:Contract)(s:State)(names:List ah)(v:Int):Bool:=
 dC s.Day 0 36524&&(lF s.Facts&&(decide (s.Duties.length≤24)&&((s.Balances.length==c.Parties.length)&&(s.Facts.all (fun f=>names.contains f)&&(!((List.range s.Duties.length).any fun k=>!nE c s k)&&(s.Balances.all rC&&v==0))))))
theorem Lj (c:Contract)(s:State)(hc:dX c)(hs:kC s)(hb:lY c=true){names:List ah}(hn:nu c=some names)(hnl:names.length≤1048576){v:Int}(hv:rY s.Balances=some v):rM c s=some (tR c s names v):=by
 have hdl:s.Duties.length≤1048576:=hs.2.2.1.1
 have hbl:s.Balances.length≤1048576:=hs.2.2.2.1.1
 have hfl:s.Facts.length≤1048576:=hs.2.1.1
 have hcl:c.Clauses.length≤1048576:=hc.2.1
 unfold rM tR
 rw[sQ c hc,Option.bind_some,hb]
 simp only[Bool.not_true,cond_false]
 rw[show oM s.Day=some (dC s.Day 0 36524) by unfold oM;rw[lc];rfl,Option.bind_some]
 cases dC s.Day 0 36524 with
 | false=>rfl
 | true=>
  simp only[Bool.not_true,cond_false]
  rw[Lw _ hs.2.1,Option.bind_some]
  cases lF s.Facts with
  | false=>rfl
  | true=>
   simp only[Bool.not_true,cond_false,eY]
   have h24:decide (len s.Duties>24)=!decide (s.Duties.length≤24):=by
    by_cases h:s.Duties.length≤24
    ·rw[decide_eq_true h,decide_eq_false (by unfold len;omega)];rfl
    ·rw[decide_eq_false h,decide_eq_true (by unfold len;omega)];rfl
   rw[h24]
   cases decide (s.Duties.length≤24) with
   | false=>rfl
   | true=>
    have hbe:(len s.Balances != len c.Parties)=!(s.Balances.length==c.Parties.length):=by
     unfold len
     by_cases h:s.Balances.length=c.Parties.length
     ·rw[h,bne,beq_self_eq_true,beq_self_eq_true]
     ·rw[bne,beq_eq_false_iff_ne.2 h,beq_eq_false_iff_ne.2 (by omega)]
    simp only[Bool.not_true,cond_false]
    rw[hbe]
    cases s.Balances.length==c.Parties.length with
    | false=>rfl
    | true=>
     simp only[Bool.not_true,cond_false,fu,dx]
     rw[hn,Option.bind_some]
     rw[DF (L:=qk c s names) (a:=s.Facts) (f:=fun e=>sd names e) (p:=fun f=>names.contains f) (fun x _=>J1 names x hnl) (fun x=>by rw[LI,lC]) (by omega)]
     cases s.Facts.all (fun f=>names.contains f) with
     | false=>rfl
     | true=>
      rw[if_pos rfl,dx]
      have h:=mU (L:=fun k=>lr c s (k:Int)) (n:=s.Duties.length) (q:=fun k=>!nE c s k) (fun k hk=>by
       show lr c s (k:Int)=_
       rw[Dc,jc,bB,decide_eq_true hk,cond_true,OS c s k hk hdl hcl,Option.bind_some,ct (by omega)]
       unfold nE
       rw[List.getElem?_eq_getElem hk]) (by
       show lr c s (s.Duties.length:Int)=_
       rw[Dc,jc,bB,decide_eq_false (Nat.lt_irrefl _),cond_false])
      rw[show lr c s 0=_ from h]
      cases (List.range s.Duties.length).any fun k=>!nE c s k with
      | true=>rfl
      | false=>
       rw[if_neg Bool.false_ne_true,dx]
       rw[DF (L:=qS c s) (a:=s.Balances) (f:=xi) (p:=rC) (fun x _=>by unfold xi;rw[lc];rfl) (fun x=>by rw[KJ,kT]) (by omega)]
       cases s.Balances.all rC with
       | false=>rfl
       | true=>
        rw[if_pos rfl,dx,hv]
        rfl
theorem Lu (c:Contract)(s:State)(hc:dX c)(hs:kC s){names:List ah}(hn:vS c=some names)(hnl:names.length≤1048576){v:Int}(hv:Eu s.Balances=some v):HS c s=some (tR c s names v):=by
 have hdl:s.Duties.length≤1048576:=hs.2.2.1.1
 have hbl:s.Balances.length≤1048576:=hs.2.2.2.1.1
 have hfl:s.Facts.length≤1048576:=hs.2.1.1
 have hcl:c.Clauses.length≤1048576:=hc.2.1
 unfold HS tR
 rw[hn,Option.bind_some]
 rw[show me s.Day=some (dC s.Day 0 36524) by unfold me;rw[jO];rfl,Option.bind_some]
 cases dC s.Day 0 36524 with
 | false=>rfl
 | true=>
  simp only[Bool.not_true,cond_false]
  rw[L6 _ hs.2.1,Option.bind_some]
  cases lF s.Facts with
  | false=>rfl
  | true=>
   simp only[Bool.not_true,cond_false]
   unfold D0 D9
   rw[uc (jK (L:=qE s.Facts names) (a:=s.Facts) (p:=fun x=>GN x names) (q:=fun f=>!names.contains f) (fun x _=>by rw[GN,tI names x hnl];rfl) (fun x=>by rw[KI,lx]) (by omega))]
   have ha:(s.Facts.any fun f=>!names.contains f)=!(s.Facts.all fun f=>names.contains f):=by rw[List.not_all_eq_any_not]
   rw[ha,Option.bind_some]
   have h24:decide (len s.Duties>24)=!decide (s.Duties.length≤24):=by
    by_cases h:s.Duties.length≤24
    ·rw[decide_eq_true h,decide_eq_false (by unfold len;omega)];rfl
    ·rw[decide_eq_false h,decide_eq_true (by unfold len;omega)];rfl
   have hbe:(len s.Balances != len c.Parties)=!(s.Balances.length==c.Parties.length):=by
    unfold len
    by_cases h:s.Balances.length=c.Parties.length
    ·rw[h,bne,beq_self_eq_true,beq_self_eq_true]
    ·rw[bne,beq_eq_false_iff_ne.2 h,beq_eq_false_iff_ne.2 (by omega)]
   rw[h24,hbe]
   cases s.Facts.all (fun f=>names.contains f) with
   | false=>cases decide (s.Duties.length≤24)<;>cases s.Balances.length==c.Parties.length<;>rfl
   | true=>
    simp only[Bool.not_true,fu,dx,cond_false]
    cases decide (s.Duties.length≤24) with
    | false=>rfl
    | true=>
     cases s.Balances.length==c.Parties.length with
     | false=>rfl
     | true=>
      simp only[Bool.not_true,cond_false,fu,dx,hv,Option.bind_some]
      have h:=mU (L:=fun k=>nq c s (k:Int)) (n:=s.Duties.length) (q:=fun k=>!nM c s k) (fun k hk=>by
       show nq c s (k:Int)=_
       rw[EX,kH,bB,decide_eq_true hk,cond_true,Po c s k hk hdl hcl,Option.bind_some,ct (by omega)]
       unfold nM
       rw[List.getElem?_eq_getElem hk]) (by
       show nq c s (s.Duties.length:Int)=_
       rw[EX,kH,bB,decide_eq_false (Nat.lt_irrefl _),cond_false])
      rw[show nq c s 0=_ from h,NV]
      unfold D1 D7
      rw[uc (jK (L:=qX s.Balances ()) (a:=s.Balances) (p:=fun x=>H6 x) (q:=fun b=>!rC b) (fun x _=>by rw[H6,Kn,jO];rfl) (fun x=>by rw[Kt,kI]) (by omega))]
      have hb2:(s.Balances.any fun b=>!rC b)=!(s.Balances.all rC):=by rw[List.not_all_eq_any_not]
      rw[hb2]
      cases hv0:v==0 with
      | false=>
       rw[bne,hv0]
       cases (List.range s.Duties.length).any fun k=>!nM c s k<;>cases s.Balances.all rC<;>rfl
      | true=>
       rw[bne,hv0]
       cases (List.range s.Duties.length).any fun k=>!nM c s k<;>cases s.Balances.all rC<;>rfl
theorem Vt (c:Contract)(s:State)(hc:dX c)(hs:kC s):∃b,rM c s=some b∧EY c s=some b∧(b=true→lY c=true∧∃names,nu c=some names∧vS c=some names∧StF c s names):=by
 cases hb:lY c with
 | false=>
  refine⟨false,?_,?_,by simp⟩
  ·unfold rM;rw[sQ c hc,Option.bind_some,hb];rfl
  ·unfold EY;rw[sN c hc,Option.bind_some,hb];rfl
 | true=>
  obtain⟨f1,f2,f3,f4⟩:=Gq hb
  obtain⟨names,n1,n2,n3,n4⟩:=xz c hc f2 (oV.2 f4)
  obtain⟨v,v1,v2⟩:=WT s.Balances hs.2.2.2.1.1
  have hnl:names.length≤1048576:=Nat.le_trans n4.2 (by decide)
  refine⟨_,Lj c s hc hs hb n1 hnl v1,?_,fun h=>⟨rfl,names,n1,n2,?_⟩⟩
  ·unfold EY
   rw[sN c hc,Option.bind_some,hb,cond_true,Lu c s hc hs n2 hnl v2]
   rfl
  ·unfold tR at h
   simp only[Bool.and_eq_true,decide_eq_true_eq,beq_iff_eq,Bool.not_eq_true'] at h
   obtain⟨g1,g2,g3,g4,g5,g6,g7,g8⟩:=h
   refine⟨g1,g2,g5,g3,g4,fun k hk=>?_,g7,by rw[v1,g8]⟩
   rw[List.any_eq_false] at g6
   have:=g6 k (List.mem_range.2 hk)
   simpa using this
theorem TX (c:Contract)(s:State)(hc:dX c)(hs:kC s):∃r,xy c s=some r∧Hl c s=some r:=by
 obtain⟨b,g1,g2,g3⟩:=Vt c s hc hs
 have hl:s.Duties.length≤1048576:=hs.2.2.1.1
 unfold xy Hl
 rw[g1,g2,Option.bind_some,Option.bind_some]
 cases b with
 | false=>exact⟨_,rfl,rfl⟩
 | true=>
  simp only[Bool.not_true,cond_false]
  unfold Er Eo
  rw[qG (L:=qH c s) (a:=s.Duties) (p:=fun d=>some (d.Status==1||d.Status==3)) (q:=fun d=>d.Status==1||d.Status==3) (r:=(false,true)) (fun _ _=>rfl) (fun x=>by
    rw[KC,lu]
    cases he:aI s.Duties x with
    | none=>rfl
    | some e=>simp only[Option.bind_some];cases e.Status==1<;>rfl) (by omega),
   uc (jK (L:=qd s.Duties ()) (a:=s.Duties) (p:=fun x=>Gw x) (q:=fun d=>d.Status==1||d.Status==3) (fun x _=>by unfold Gw;cases x.Status==1<;>rfl) (fun x=>by rw[KM,ld]) (by omega))]
  cases s.Duties.any fun d=>d.Status==1||d.Status==3<;>exact⟨_,rfl,rfl⟩
theorem pM (c:Contract)(hc:Rx c)(s:State)(hs:xL s):dG c s=some true:=by
 unfold dG
 obtain⟨r1,e1,q1⟩:=Ju c hc (l:=1048576) (by decide) (by decide)
 rw[e1,Option.bind_some]
 rcases q1 with q1 | ⟨q1,p1,s1⟩
 ·rw[decide_eq_true q1,cond_true]
 rw[decide_eq_false (by omega),cond_false]
 obtain⟨r2,e2,q2⟩:=QC s hs (l:=r1) (by omega) (by omega)
 rw[e2,Option.bind_some]
 rcases q2 with q2 | ⟨q2,p2,s2⟩
 ·rw[decide_eq_true q2,cond_true]
 rw[decide_eq_false (by omega),cond_false]
 obtain⟨r,g1,g2⟩:=TX c s s1 s2
 simp only[IP c s1,Qp s s2,Option.bind_some,g1,g2,IM c s1,RH s s2,beq_self_eq_true,bne_self_eq_false,Bool.not_true,eY,cond_false]
end Go.Ln
