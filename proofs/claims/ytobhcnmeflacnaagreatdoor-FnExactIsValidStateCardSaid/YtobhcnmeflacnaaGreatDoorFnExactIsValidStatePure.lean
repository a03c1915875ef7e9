/-
  The plain law: the plain functions answer true.
-/
import Derived.Test.YtobhcnmeflacnaaGreatDoorFnExactIsValidStateLib
import Derived.Sort.AssemblyPlain
import Derived.Sort.LotD4
import Derived.Sort.LotD5
set_option linter.unusedVariables false
set_option linter.unusedSimpArgs false
set_option maxRecDepth 100000
namespace Go.Ln
open Go
theorem yA {α:Type}{b:Nat}{xs:List α}{y:α}(h:(xs.length+1)*b≤1099511627776)(h2:xs.length+1≤1099511627776):kw b xs [y]=some (xs++[y]):=by
 unfold kw
 rw[if_pos]
 simp only[List.length_cons,List.length_nil,kb,Nat.zero_add]
 omega
namespace StrL
theorem lt_irrefl:∀(a:ae),Op.bytesLess a a=false
 | []=>rfl
 | x::xs=>by
  have h:¬x<x:=by simp
  simp[Op.bytesLess,h,lt_irrefl xs]
theorem lt_trans:∀(a b c:ae),Op.bytesLess a b=true→Op.bytesLess b c=true→Op.bytesLess a c=true
 | _,[],_,h,_=>by simp[Op.bytesLess] at h
 | _,_::_,[],_,h=>by simp[Op.bytesLess] at h
 | [],_::_,_::_,_,_=>rfl
 | x::xs,y::ys,z::zs,h1,h2=>by
  simp only[Op.bytesLess,Bool.or_eq_true,decide_eq_true_eq,Bool.and_eq_true,beq_iff_eq] at h1 h2 ⊢
  rcases h1 with h1 | ⟨h1,h3⟩<;>rcases h2 with h2 | ⟨h2,h4⟩
  ·exact .inl (UInt8.lt_trans h1 h2)
  ·subst h2;exact .inl h1
  ·subst h1;exact .inl h2
  ·subst h1;subst h2;exact .inr ⟨rfl,lt_trans xs ys zs h3 h4⟩
def Lt (a b:ae):Prop:=Op.bytesLess a b=true
theorem tri (a b:ae):Lt a b∨a=b∨Lt b a:=by
 have:=Hy a b
 unfold Lt
 cases h:Op.bytesLess a b
 ·cases h2:a==b
  ·rw[h,h2] at this;exact .inr (.inr this.symm)
  ·exact .inr (.inl (by simpa using h2))
 ·exact .inl rfl
theorem Lt.irrefl {a:ae}(h:Lt a a):False:=by unfold Lt at h;rw[lt_irrefl] at h;cases h
theorem Lt.trans {a b c:ae}(h:Lt a b)(h2:Lt b c):Lt a c:=lt_trans a b c h h2
theorem Lt.asymm {a b:ae}(h:Lt a b)(h2:Lt b a):False:=(h.trans h2).irrefl
def Le (a b:ae):Prop:=¬Lt b a
theorem Le.lt_or {a b:ae}(h:Le a b):Lt a b∨a=b:=by
 rcases tri a b with h1 | h1 | h1
 ·exact .inl h1
 ·exact .inr h1
 ·exact (h h1).elim
theorem Le.trans {a b c:ae}(h:Le a b)(h2:Le b c):Le a c:=by
 intro h3
 rcases h.lt_or with h4 | rfl
 ·rcases h2.lt_or with h5 | rfl
  ·exact (h4.trans h5).asymm h3
  ·exact h h3
 ·exact h2 h3
theorem Lt.le {a b:ae}(h:Lt a b):Le a b:=fun h2=>h.asymm h2
theorem Lt.ne {a b:ae}(h:Lt a b):a≠b:=fun e=>by subst e;exact h.irrefl
theorem Le.le_lt {a b c:ae}(h:Le a b)(h2:Lt b c):Lt a c:=by
 rcases h.lt_or with h3 | rfl
 ·exact h3.trans h2
 ·exact h2
end StrL
namespace StrL
def eS (a:List ae)(j:Nat):Bool:=match j with
 | 0=>true
 | j+1=>match a[j]?,a[j+1]? with
  | some x,some y=>y != x
  | _,_=>true
def dd (a:List ae):List ae:=jv (eS a) a a.length
theorem Dm {a:List ae}{k:Nat}(h:∀j x y,j+1<k→a[j]?=some x→a[j+1]?=some y→y≠x)(hn:k≤a.length):jv (eS a) a k=a.take k:=by
 have e:∀n,n≤k→jv (eS a) a n=a.take n:=by
  intro n
  induction n with
  | zero=>intro _;rfl
  | succ n ih=>
   intro hk
   have h1:n<a.length:=by omega
   have hx:=List.getElem?_eq_getElem h1
   rw[xf ?_ hx,ih (by omega),List.take_add_one,hx]
   ·rfl
   ·cases n with
    | zero=>rfl
    | succ n=>
     have h2:=List.getElem?_eq_getElem (show n<a.length by omega)
     simp only[eS,h2,hx]
     simpa using h n _ _ (by omega) h2 hx
 exact e k (Nat.le_refl k)
theorem JJ {s z:List ae}{x j:Nat}(h1:x≤j)(h2:j<s.length):rQ z (0+Int.toNat (x:Int)) (Int.toNat (len s) - Int.toNat (x:Int)) ((j:Int) - (x:Int))=z[j]?:=by
 unfold rQ
 simp only[len,Int.toNat_natCast,Nat.zero_add]
 rw[if_pos (by omega),show x+((j:Int) - (x:Int)).toNat=j by omega]
theorem Hc (s:List ae)(x:Nat)(hl:s.length≤1048576)(hx:x<s.length)(h0:jv (eS s) s (x+1)=s.take x):∃(i:Nat) (z:List ae),iL s (x:Int) ((x:Int),1,s)=some (.inr ((i:Int),z))∧z.length=s.length∧i≤z.length∧z.take i=dd s:=by
 have hD:=Tb (L:=fun q:Int×Int×List ae=>iL s (x:Int) (q.1,q.2.1 - (x:Int),q.2.2)) (keep:=eS s) (a:=s) (i0:=x)
  (by
   intro i j z y hz hi hij hy hy2 hy3
   obtain⟨h1,_⟩:=List.getElem?_eq_some_iff.1 hy
   have h2:=List.getElem?_eq_getElem (show j - 1<s.length by omega)
   have h4:=List.getElem?_eq_getElem (show i<z.length by omega)
   show iL s (x:Int) ((i:Int),(j:Int) - (x:Int),z)=bif eS s j then iL s (x:Int) (((i+1:Nat):Int),((j+1:Nat):Int) - (x:Int),z.set i y) else iL s (x:Int) ((i:Int),((j+1:Nat):Int) - (x:Int),z)
   have w1:ar ((j:Int) - (x:Int) - 1)=((j - 1:Nat):Int) - (x:Int):=by rw[iy (by omega) (by omega)];omega
   have w2:ar ((j:Int) - (x:Int)+1)=((j+1:Nat):Int) - (x:Int):=by rw[iy (by omega) (by omega)];omega
   have c1:decide ((j:Int) - (x:Int)<(((Int.toNat (len s) - Int.toNat (x:Int)):Nat):Int))=true:=decide_eq_true (by simp only[len,Int.toNat_natCast];omega)
   rw[Bj,jd]
   simp only[c1,cond_true,w1,w2,JJ (show x≤j by omega) h1,JJ (show x≤j - 1 by omega) (show j - 1<s.length by omega),hy2,hy3,h2,Option.bind_some,bK,G2,h4,cr (show i<9223372036854775807 by omega)]
   have hk:eS s j=(y != s[j - 1]):=by
    cases j with
    | zero=>omega
    | succ j=>
     simp only[eS,hy,show j+1 - 1=j by omega] at h2 ⊢
     simp only[h2]
   rw[hk]
   show _=bif !(y==s[j - 1]) then _ else _
   cases y==s[j - 1]<;>rfl)
  (by
   intro i j z hz hi hij hj
   show iL s (x:Int) ((i:Int),(j:Int) - (x:Int),z)=_
   have c1:decide ((j:Int) - (x:Int)<(((Int.toNat (len s) - Int.toNat (x:Int)):Nat):Int))=false:=decide_eq_false (by simp only[len,Int.toNat_natCast];omega)
   rw[Bj,jd]
   simp only[c1,cond_false])
  h0 hx
 simp only[show ((x+1:Nat):Int) - (x:Int)=1 by omega] at hD
 exact hD
theorem ta (s:List ae)(hl:s.length≤1048576):∀(n k:Nat),k+n=s.length→1≤k→(∀j x y,j+1<k→s[j]?=some x→s[j+1]?=some y→y≠x)→∃y,oc s (k:Int)=some y∧(y=.inl (dd s)∨y=.inr (dd s))
 | 0,k,hk,h1,h=>by
  refine⟨.inr s,?_,.inr ?_⟩
  ·rw[CJ,jh,bB,decide_eq_false (by omega),cond_false]
  ·unfold dd
   rw[Dm (k:=s.length) (fun j x y hj=>h j x y (by omega)) (Nat.le_refl _),List.take_length]
 | n+1,k,hk,h1,h=>by
  have h2:k<s.length:=by omega
  have e1:=List.getElem?_eq_getElem h2
  have e2:=List.getElem?_eq_getElem (show k - 1<s.length by omega)
  have w1:ar ((k:Int) - 1)=((k - 1:Nat):Int):=by rw[iy (by omega) (by omega)];omega
  rw[CJ,jh,bB,decide_eq_true h2,cond_true,w1,bK,bK,e1,e2,Option.bind_some,Option.bind_some,cr (by omega)]
  by_cases hq:s[k]=s[k - 1]
  ·rw[beq_iff_eq.2 hq,cond_true]
   have e3:gp s.length (k:Int) (len s)=some ():=by unfold gp;rw[if_pos (by simp only[len];omega)]
   have hno:eS s k=false:=by
    cases k with
    | zero=>omega
    | succ k=>
     simp only[show k+1 - 1=k by omega] at e2 hq
     simp only[eS,e1,e2,hq,bne_self_eq_false]
   obtain⟨i,z,e,hz,hi,ht⟩:=Hc s k hl h2 (by rw[Da hno,Dm h (by omega)])
   rw[e3,Option.bind_some,e,fj]
   refine⟨.inl (dd s),?_,.inl rfl⟩
   rw[←ht]
   exact Xo (c:=([]:ae)) (F:=fun p19=>some (Sum.inl p19)) hi
  ·rw[beq_eq_false_iff_ne.2 hq,cond_false]
   refine ta s hl n (k+1) (by omega) (by omega) fun j x y hj hx hy=>?_
   by_cases hj2:j+1<k
   ·exact h j x y hj2 hx hy
   ·obtain rfl:k=j+1:=by omega
    simp only[show j+1 - 1=j by omega] at e2 hq
    rw[e2] at hx
    rw[e1] at hy
    cases hx
    cases hy
    exact hq
theorem compact_val (s:List ae)(hl:s.length≤1048576):xc s=some (dd s):=by
 unfold xc
 by_cases h:len s<2
 ·rw[decide_eq_true h,cond_true]
  have h':s.length<2:=by simp only[len] at h;omega
  unfold dd
  rw[Dm (k:=s.length) (fun j x y hj=>by omega) (Nat.le_refl _),List.take_length]
 ·rw[decide_eq_false h,cond_false]
  have h':¬s.length<2:=by simp only[len] at h;omega
  obtain⟨y,hy,hq⟩:=ta s hl (s.length - 1) 1 (by omega) (Nat.le_refl _) (fun j x y hj=>by omega)
  rw[show oc s 1=some y from hy]
  rcases hq with rfl | rfl<;>rfl
end StrL
namespace StrL
theorem Ex {a:List ae}(hs:a.Pairwise Le):∀n,n≤a.length→(jv (eS a) a n).Pairwise Lt∧∀x,x∈jv (eS a) a n↔x∈a.take n
 | 0,_=>by
  have e:jv (eS a) a 0=[]:=rfl
  rw[e]
  exact⟨List.Pairwise.nil,fun x=>by simp⟩
 | n+1,hn=>by
  obtain⟨h1,h2⟩:=Ex hs n (by omega)
  have hlt:n<a.length:=by omega
  have hx:=List.getElem?_eq_getElem hlt
  have hle:∀y∈a.take n,Le y a[n]:=by
   intro y hy
   obtain⟨i,hi,rfl⟩:=List.mem_iff_getElem.1 hy
   rw[List.length_take] at hi
   rw[List.getElem_take]
   exact List.pairwise_iff_getElem.1 hs i n (by omega) hlt (by omega)
  cases hk:eS a n with
  | true=>
   rw[xf hk hx]
   have hstrict:∀y∈a.take n,Lt y a[n]:=by
    intro y hy
    cases n with
    | zero=>simp at hy
    | succ j=>
     have h3:=List.getElem?_eq_getElem (show j<a.length by omega)
     have hne:a[j+1]≠a[j]:=by
      simp only[eS,h3,hx] at hk
      simpa using hk
     have hj:Le a[j] a[j+1]:=List.pairwise_iff_getElem.1 hs j (j+1) (by omega) hlt (by omega)
     obtain⟨i,hi,rfl⟩:=List.mem_iff_getElem.1 hy
     rw[List.length_take] at hi
     rw[List.getElem_take]
     have hlt2:Lt a[j] a[j+1]:=hj.lt_or.resolve_right fun e=>hne e.symm
     by_cases e:i=j
     ·subst e;exact hlt2
     ·have:=List.pairwise_iff_getElem.1 hs i j (by omega) (by omega) (by omega)
      exact this.le_lt hlt2
   refine⟨List.pairwise_append.2 ⟨h1,List.pairwise_singleton _ _,fun y hy z hz=>?_⟩,fun x=>?_⟩
   ·rw[List.mem_singleton] at hz
    subst hz
    exact hstrict y ((h2 y).1 hy)
   ·rw[List.take_add_one,hx,List.mem_append,List.mem_append,h2]
    rfl
  | false=>
   rw[Da hk]
   refine⟨h1,fun x=>?_⟩
   rw[h2,List.take_add_one,hx,List.mem_append]
   constructor
   ·exact .inl
   ·rintro (h | h)
    ·exact h
    ·have e:x=a[n]:=by simpa using h
     subst e
     cases n with
     | zero=>simp[eS] at hk
     | succ j=>
      have h3:=List.getElem?_eq_getElem (show j<a.length by omega)
      simp only[eS,h3,hx] at hk
      have e:a[j+1]=a[j]:=by simpa using hk
      rw[e]
      have:a[j]∈a.take (j+1):=by
       rw[List.mem_iff_getElem]
       exact⟨j,by rw[List.length_take];omega,by rw[List.getElem_take]⟩
      exact this
theorem dd_ok {a:List ae}(hs:a.Pairwise Le):(dd a).Pairwise Lt∧∀x,x∈dd a↔x∈a:=by
 have:=Ex hs a.length (Nat.le_refl _)
 rw[List.take_length] at this
 exact this
theorem asc_uniq:∀{a b:List ae},a.Pairwise Lt→b.Pairwise Lt→(∀x,x∈a↔x∈b)→a=b
 | [],[],_,_,_=>rfl
 | [],y::b,_,_,h=>absurd ((h y).2 (by simp)) (by simp)
 | x::a,[],_,_,h=>absurd ((h x).1 (by simp)) (by simp)
 | x::a,y::b,ha,hb,h=>by
  rw[List.pairwise_cons] at ha hb
  have e:x=y:=by
   have h1:=(h x).1 (by simp)
   have h2:=(h y).2 (by simp)
   rw[List.mem_cons] at h1 h2
   rcases h1 with h1 | h1
   ·exact h1
   ·rcases h2 with h2 | h2
    ·exact h2.symm
    ·exact ((ha.1 y h2).asymm (hb.1 x h1)).elim
  subst e
  rw[asc_uniq ha.2 hb.2 fun z=>?_]
  constructor
  ·intro hz
   have h1:=(h z).1 (List.mem_cons_of_mem _ hz)
   rcases List.mem_cons.1 h1 with e | h1
   ·subst e;exact (ha.1 z hz).irrefl.elim
   ·exact h1
  ·intro hz
   have h1:=(h z).2 (List.mem_cons_of_mem _ hz)
   rcases List.mem_cons.1 h1 with e | h1
   ·subst e;exact (hb.1 z hz).irrefl.elim
   ·exact h1
theorem H9 {b:Nat}{xs ys:List ae}(h:(xs.length+ys.length)*b≤1099511627776)(h2:xs.length+ys.length≤1099511627776):kw b xs ys=some (xs++ys):=by
 unfold kw
 rw[if_pos]
 simp only[kb]
 omega
theorem Hp (l:List ae)(n:ae)(m:Nat)(hm:m≤l.length)(hl:l.length≤1048576)(h1:∀(j:Nat) x,j<m→l[j]?=some x→Lt x n)(h2:∀x,l[m]?=some x→¬Lt x n):∀(k j:Nat),j+k=m→qv l n (j:Int)=some (.inr (n,(m:Int),l))
 | 0,j,hj=>by
  obtain rfl:j=m:=by omega
  rw[B2,ja,bB]
  by_cases h:j<l.length
  ·rw[decide_eq_true h,cond_true,bK,List.getElem?_eq_getElem h,Option.bind_some,fj,show Op.bytesLess l[j] n=false from by simpa[Lt] using h2 _ (List.getElem?_eq_getElem h),cond_false]
  ·rw[decide_eq_false h,cond_false,fj,cond_false]
 | k+1,j,hj=>by
  have h:j<l.length:=by omega
  rw[B2,ja,bB,decide_eq_true h,cond_true,bK,List.getElem?_eq_getElem h,Option.bind_some,fj,show Op.bytesLess l[j] n=true from h1 j _ (by omega) (List.getElem?_eq_getElem h),cond_true,cr (by omega)]
  exact Hp l n m hm hl h1 h2 k (j+1) (by omega)
theorem put_val (l:List ae)(n:ae)(hl:l.length≤1000000)(hs:l.Pairwise Lt):∃r,sX l n=some r∧r.Pairwise Lt∧(∀x,x∈r↔x∈l∨x=n)∧r.length≤l.length+1:=by
 have key:∃m,m≤l.length∧(∀(j:Nat) x,j<m→l[j]?=some x→Lt x n)∧(∀x,l[m]?=some x→¬Lt x n):=by
  clear hl
  induction l with
  | nil=>exact⟨0,by simp,fun j x hj=>by omega,fun x hx=>by simp at hx⟩
  | cons y l ih=>
   by_cases hy:Lt y n
   ·obtain⟨m,h1,h2,h3⟩:=ih (List.pairwise_cons.1 hs).2
    refine⟨m+1,by simp;omega,fun j x hj hx=>?_,fun x hx=>h3 x (by simpa using hx)⟩
    cases j with
    | zero=>simp at hx;subst hx;exact hy
    | succ j=>exact h2 j x (by omega) (by simpa using hx)
   ·exact⟨0,by simp,fun j x hj=>by omega,fun x hx=>by simp at hx;subst hx;exact hy⟩
 obtain⟨m,hm,h1,h2⟩:=key
 have hlow:∀x∈l.take m,Lt x n:=by
  intro x hx
  obtain⟨i,hi,rfl⟩:=List.mem_iff_getElem.1 hx
  rw[List.length_take] at hi
  rw[List.getElem_take]
  exact h1 i _ (by omega) (List.getElem?_eq_getElem (by omega))
 have hloop:=Hp l n m hm (by omega) h1 h2 m 0 (by omega)
 rw[show ((0:Nat):Int)=0 from rfl] at hloop
 unfold sX
 rw[hloop]
 simp only[dx,bB]
 have s1:gp l.length 0 (m:Int)=some ():=by unfold gp;rw[if_pos (by omega)]
 have s2:gp l.length (m:Int) (len l)=some ():=by unfold gp;rw[if_pos (by simp only[len];omega)]
 have p1:gE l (0+Int.toNat 0) (Int.toNat (m:Int) - Int.toNat 0)=some (l.take m):=by
  unfold gE
  simp only[Int.toNat_zero,Int.toNat_natCast,Nat.zero_add,Nat.sub_zero,List.drop_zero]
  rw[if_pos hm]
 have p2:gE l (0+Int.toNat (m:Int)) (Int.toNat (len l) - Int.toNat (m:Int))=some (l.drop m):=by
  unfold gE
  simp only[Int.toNat_natCast,Nat.zero_add,len]
  rw[if_pos (by omega),List.take_of_length_le (by rw[List.length_drop];omega)]
 have a1:kw 16 ([]:List ae) (l.take m)=some (l.take m):=by rw[H9 (by simp only[List.length_nil,List.length_take];omega) (by simp only[List.length_nil,List.length_take];omega)];rfl
 have a2:kw 16 (l.take m) [n]=some (l.take m++[n]):=yA (by rw[List.length_take];omega) (by rw[List.length_take];omega)
 have a3:kw 16 (l.take m++[n]) (l.drop m)=some (l.take m++[n]++l.drop m):=H9 (by simp only[List.length_append,List.length_take,List.length_drop,List.length_singleton];omega) (by simp only[List.length_append,List.length_take,List.length_drop,List.length_singleton];omega)
 have hins:(∀x∈l.drop m,Lt n x)→(l.take m++[n]++l.drop m).Pairwise Lt∧(∀x,x∈l.take m++[n]++l.drop m↔x∈l∨x=n)∧(l.take m++[n]++l.drop m).length≤l.length+1:=by
  intro hhi
  have hs2:=hs
  rw[←List.take_append_drop m l,List.pairwise_append] at hs2
  refine⟨List.pairwise_append.2 ⟨List.pairwise_append.2 ⟨hs2.1,List.pairwise_singleton _ _,fun x hx y hy=>?_⟩,hs2.2.1,fun x hx y hy=>?_⟩,fun x=>?_,?_⟩
  ·rw[List.mem_singleton] at hy;subst hy;exact hlow x hx
  ·rcases List.mem_append.1 hx with hx | hx
   ·exact hs2.2.2 x hx y hy
   ·rw[List.mem_singleton] at hx;subst hx;exact hhi y hy
  ·have:x∈l↔x∈l.take m∨x∈l.drop m:=by
    rw[←List.mem_append,List.take_append_drop]
   rw[List.mem_append,List.mem_append,List.mem_singleton,this]
   constructor
   ·rintro ((h | h) | h)
    ·exact .inl (.inl h)
    ·exact .inr h
    ·exact .inl (.inr h)
   ·rintro ((h | h) | h)
    ·exact .inl (.inl h)
    ·exact .inr h
    ·exact .inl (.inr h)
  ·simp only[List.length_append,List.length_take,List.length_drop,List.length_singleton];omega
 by_cases hb:m<l.length
 ·have hx:=List.getElem?_eq_getElem hb
  have hge:=h2 _ hx
  have hrest:∀x∈l.drop (m+1),Lt l[m] x:=by
   intro x hx
   obtain⟨i,hi,rfl⟩:=List.mem_iff_getElem.1 hx
   rw[List.length_drop] at hi
   rw[List.getElem_drop]
   exact List.pairwise_iff_getElem.1 hs m (m+1+i) hb (by omega) (by omega)
  rw[decide_eq_true hb,cond_true,bK,hx,Option.bind_some,dx,vm]
  by_cases he:l[m]=n
  ·rw[decide_eq_true he,cond_true]
   refine⟨l,rfl,hs,fun x=>⟨.inl,?_⟩,by omega⟩
   rintro (h | h)
   ·exact h
   ·rw[h,←he];exact List.getElem_mem hb
  ·rw[decide_eq_false he,cond_false]
   simp only[s1,p1,a1,a2,s2,p2,a3,Option.bind_some]
   refine⟨_,rfl,hins ?_⟩
   intro x hx
   rw[List.drop_eq_getElem_cons hb] at hx
   rcases List.mem_cons.1 hx with rfl | hx
   ·exact (tri n l[m]).resolve_right fun h=>h.elim (fun e=>he e.symm) hge
   ·have h1:Lt n l[m]:=(tri n l[m]).resolve_right fun h=>h.elim (fun e=>he e.symm) hge
    exact h1.trans (hrest x hx)
 ·rw[decide_eq_false hb,cond_false,dx,cond_false]
  simp only[s1,p1,a1,a2,s2,p2,a3,Option.bind_some]
  refine⟨_,rfl,hins ?_⟩
  intro x hx
  rw[List.drop_of_length_le (by omega)] at hx
  cases hx
end StrL
theorem ve {x y:ae}:decide (x≤y)=true↔StrL.Le x y:=by
 unfold StrL.Le StrL.Lt
 rw[Go.Proofs.bytesLess_eq,decide_eq_true_iff,decide_eq_true_iff]
 exact Iff.rfl
theorem PU (l:List ae):(l.mergeSort fun x y=>decide (x≤y)).Pairwise StrL.Le:=by
 have h:=List.pairwise_mergeSort (le:=fun x y:ae=>decide (x≤y)) (fun x y z h1 h2=>by
  rw[ve] at *;exact h1.trans h2) (fun x y=>by
  rw[Bool.or_eq_true,ve,ve]
  rcases StrL.tri x y with h | h | h
  ·exact .inl h.le
  ·subst h;exact .inl fun h=>h.irrefl
  ·exact .inr h.le) l
 exact h.imp fun {x y} h=>ve.1 h
theorem SS (l r:List ae)(hl:l.length≤1048576)(hr:r.Pairwise StrL.Lt)(hm:∀x,x∈r↔x∈l):Gi l=some r:=by
 unfold Gi qG
 have hl2:(l.mergeSort fun (x y:ae)=>decide (x≤y)).length=l.length:=List.length_mergeSort _
 rw[Nat.ble_eq_true_of_le hl,cond_true,Option.bind_some,hl2,Nat.beq_refl,cond_true,StrL.compact_val _ (by rw[hl2];exact hl),Option.bind_some]
 obtain⟨h1,h2⟩:=StrL.dd_ok (PU l)
 congr 1
 refine StrL.asc_uniq h1 hr fun x=>?_
 rw[h2,hm]
 exact (List.mergeSort_perm l _).mem_iff
theorem xa (b x:Bool):(bif b then x else false)=(b&&x):=by cases b<;>rfl
def dB (x a b:Int):Bool:=decide (x≥a)&&decide (x≤b)
theorem lw (x a b:Int):cU x a b=some (dB x a b):=by simp only[cU,fb,xa,dB]
theorem jP (x a b:Int):kd x a b=some (dB x a b):=by simp only[kd,fb,xa,dB]
def i6 (c:UInt8):Bool:=(decide (97≤c.toNat)&&decide (c.toNat≤122))||(decide (48≤c.toNat)&&decide (c.toNat≤57))
theorem OA (c:UInt8):tg (c.toNat:Int)=some (i6 c):=by
 simp only[tg,i6,fb]
 by_cases h1:97≤c.toNat<;>by_cases h2:c.toNat≤122<;>by_cases h3:48≤c.toNat<;>by_cases h4:c.toNat≤57<;>simp[h1,h2,h3,h4,show ((97:Int)≤c.toNat)↔97≤c.toNat by omega,show ((c.toNat:Int)≤122)↔c.toNat≤122 by omega,show ((48:Int)≤c.toNat)↔48≤c.toNat by omega,show ((c.toNat:Int)≤57)↔c.toNat≤57 by omega]
def jM:List ae:=[[116,114,117,101],[102,114,111,109],[110,111,116],[97,110,100],[111,114],[98,111,116,104],[101,105,116,104,101,114],[105,116],[105,110]]
def eE (s:ae):Bool:=match s with
 | []=>false
 | c::r=>decide (r.length<8)&&decide (97≤c.toNat)&&decide (c.toNat≤122)&&s.all i6 && !jM.contains s
theorem TH (b x:Bool):(bif b then b else x)=(b||x):=by cases b<;>rfl
theorem I1:xD [116,114,117,101,32,102,114,111,109,32,110,111,116,32,97,110,100,32,111,114,32,98,111,116,104,32,101,105,116,104,101,114,32,105,116,32,105,110] [32]=some jM:=by
 have h:vf [116,114,117,101,32,102,114,111,109,32,110,111,116,32,97,110,100,32,111,114,32,98,111,116,104,32,101,105,116,104,101,114,32,105,116,32,105,110] [32] 0 (-1) 9 ([116,114,117,101,32,102,114,111,109,32,110,111,116,32,97,110,100,32,111,114,32,98,111,116,104,32,101,105,116,104,101,114,32,105,116,32,105,110],0,List.replicate 9 [])=some (.inr ([105,110],8,[[116,114,117,101],[102,114,111,109],[110,111,116],[97,110,100],[111,114],[98,111,116,104],[101,105,116,104,101,114],[105,116],[]])):=
  (gn (fun a=>(v8 _ _ _ _ _ a).1)).2 ⟨20,by decide +kernel⟩
 have e:xD [116,114,117,101,32,102,114,111,109,32,110,111,116,32,97,110,100,32,111,114,32,98,111,116,104,32,101,105,116,104,101,114,32,105,116,32,105,110] [32]=(aW (vf [116,114,117,101,32,102,114,111,109,32,110,111,116,32,97,110,100,32,111,114,32,98,111,116,104,32,101,105,116,104,101,114,32,105,116,32,105,110] [32] 0 (-1) 9 ([116,114,117,101,32,102,114,111,109,32,110,111,116,32,97,110,100,32,111,114,32,98,111,116,104,32,101,105,116,104,101,114,32,105,116,32,105,110],0,List.replicate 9 [])) fun u12:ae×Int×(List ae)=>(aK u12.2.2 u12.2.1).bind fun e13=>(gp (eu u12.2.2 u12.2.1 u12.1).length 0 (ar (u12.2.1+1))).bind fun s14=>(gE (eu u12.2.2 u12.2.1 u12.1) (0+Int.toNat (0)) (Int.toNat ((ar (u12.2.1+1))) - Int.toNat (0))).bind fun p15=>some p15).bind fun r=>some r:=by rfl
 rw[e,h]
 rfl
theorem D5 (s:ae):oD jM s=some (jM.contains s):=by
 unfold oD xS
 rw[ld (L:=nY jM s) (a:=jM) (p:=fun e=>some (s==e)) (q:=fun e=>s==e) (fun _ _=>rfl) (fun x=>by rw[Ar,jq]<;>rfl) (by decide)]
 cases h:jM.findIdx? (fun e=>s==e) with
 | none=>
  have:jM.contains s=false:=by
   rw[List.findIdx?_eq_none_iff] at h
   rw[Bool.eq_false_iff]
   intro hc
   rw[List.contains_iff_exists_mem_beq] at hc
   obtain⟨w,hw,he⟩:=hc
   rw[h w hw] at he
   cases he
  rw[this]
  rfl
 | some i=>
  have:jM.contains s=true:=by
   rw[List.findIdx?_eq_some_iff_getElem] at h
   obtain⟨hi,he,_⟩:=h
   rw[List.contains_iff_exists_mem_beq]
   exact⟨_,List.getElem_mem hi,he⟩
  rw[this]
  simp
theorem Lp (s:ae):(bif s==[116,114,117,101] then s==[116,114,117,101] else bif s==[102,114,111,109] then s==[102,114,111,109] else bif s==[110,111,116] then s==[110,111,116] else bif s==[97,110,100] then s==[97,110,100] else bif s==[111,114] then s==[111,114] else bif s==[98,111,116,104] then s==[98,111,116,104] else bif s==[101,105,116,104,101,114] then s==[101,105,116,104,101,114] else bif s==[105,116] then s==[105,116] else s==[105,110])=jM.contains s:=by
 simp only[TH,jM,List.contains_cons,List.contains_nil,Bool.or_false]
theorem mU (s:ae)(hs:s.length≤1048576):oQ s=some (eE s):=by
 unfold oQ cU eE
 simp only[fb,Option.bind_some,Lp]
 cases s with
 | nil=>rfl
 | cons c r=>
  have e1:decide (len (c::r)≥1)=true:=decide_eq_true (by simp[len];omega)
  have e2:decide (len (c::r)≤8)=decide (r.length<8):=by simp only[len,List.length_cons];congr 1;apply propext;omega
  have e3:aK (c::r) (0:Int)=some c:=rfl
  have e4:decide ((c.toNat:Int)<97)=!decide (97≤c.toNat):=by rw[←decide_not];congr 1;apply propext;omega
  have e5:decide ((c.toNat:Int)>122)=!decide (c.toNat≤122):=by rw[←decide_not];congr 1;apply propext;omega
  rw[e1,e2,e3,uY (r:=false) (L:=qH (c::r)) (a:=c::r) (p:=fun c=>(tg (c.toNat:Int)).bind fun r=>some (!r)) (q:=fun c=>!i6 c) (fun x _=>by rw[OA];rfl) (fun x=>by rw[J8,ls];simp only[Option.bind_assoc,Option.bind_some]) (by omega)]
  simp only[cond_true,Option.bind_some,e4,e5]
  have e6:((c::r).any fun c=>!i6 c)=!((c::r).all i6):=by rw[List.not_all_eq_any_not]
  rw[e6]
  cases decide (r.length<8)<;>cases decide (97≤c.toNat)<;>cases decide (c.toNat≤122)<;>cases (c::r).all i6<;>cases jM.contains (c::r)<;>rfl
theorem mY (s:ae)(hs:s.length≤1048576):sP s=some (eE s):=by
 unfold sP kd eE
 simp only[fb,Option.bind_some,I1,D5]
 cases s with
 | nil=>rfl
 | cons c r=>
  have e1:decide (len (c::r)≥1)=true:=decide_eq_true (by simp[len];omega)
  have e2:decide (len (c::r)≤8)=decide (r.length<8):=by simp only[len,List.length_cons];congr 1;apply propext;omega
  have e3:aK (c::r) (0:Int)=some c:=rfl
  have e4:decide ((c.toNat:Int)<97)=!decide (97≤c.toNat):=by rw[←decide_not];congr 1;apply propext;omega
  have e5:decide ((c.toNat:Int)>122)=!decide (c.toNat≤122):=by rw[←decide_not];congr 1;apply propext;omega
  have hp:∀c:UInt8,(bif decide ((c.toNat:Int)<97) then (bif decide ((c.toNat:Int)<48) then true else decide ((c.toNat:Int)>57)) else (bif decide ((c.toNat:Int)>122) then (bif decide ((c.toNat:Int)<48) then true else decide ((c.toNat:Int)>57)) else false))=!i6 c:=by
   intro c
   have f1:decide ((c.toNat:Int)<97)=!decide (97≤c.toNat):=by rw[←decide_not];congr 1;apply propext;omega
   have f2:decide ((c.toNat:Int)>122)=!decide (c.toNat≤122):=by rw[←decide_not];congr 1;apply propext;omega
   have f3:decide ((c.toNat:Int)<48)=!decide (48≤c.toNat):=by rw[←decide_not];congr 1;apply propext;omega
   have f4:decide ((c.toNat:Int)>57)=!decide (c.toNat≤57):=by rw[←decide_not];congr 1;apply propext;omega
   rw[f1,f2,f3,f4]
   unfold i6
   by_cases g1:97≤c.toNat
   ·have g3:48≤c.toNat:=by omega
    have g4:¬c.toNat≤57:=by omega
    simp only[g1,g3,g4,decide_true,decide_false]
    cases decide (c.toNat≤122)<;>rfl
   ·simp only[g1,decide_false]
    cases decide (48≤c.toNat)<;>cases decide (c.toNat≤57)<;>rfl
  rw[e1,e2,e3,uY (r:=false) (L:=ue (c::r)) (a:=c::r) (p:=fun c=>some (!i6 c)) (q:=fun c=>!i6 c) (fun x _=>rfl) (fun x=>by rw[Np,mf];simp only[fb,hp,Option.bind_some]) (by omega)]
  simp only[cond_true,Option.bind_some,e4,e5]
  have e6:((c::r).any fun c=>!i6 c)=!((c::r).all i6):=by rw[List.not_all_eq_any_not]
  rw[e6]
  cases decide (r.length<8)<;>cases decide (97≤c.toNat)<;>cases decide (c.toNat≤122)<;>cases (c::r).all i6<;>cases jM.contains (c::r)<;>rfl
theorem l3 {ρ υ σ : Type}{L : Nat → σ → Option (ρ ⊕ υ)}(N : Nat)(J : Nat → σ → Prop)(T : ρ ⊕ υ → Prop)(hs : ∀ i s, i < N → J i s → (∃ s', J (i + 1) s' ∧ L i s = L (i + 1) s') ∨ ∃ y, T y ∧ L i s = some y)(he : ∀ s, J N s → ∃ y, T y ∧ L N s = some y){s : σ}(h0 : J 0 s) : ∃ y, T y ∧ L 0 s = some y := by
  have key : ∀ k i s, i + k = N → J i s → ∃ y, T y ∧ L i s = some y := by
    intro k
    induction k with
    | zero => intro i s hi hj; obtain rfl : i = N := by omega
              exact he s hj
    | succ k ih =>
      intro i s hi hj
      rcases hs i s (by omega) hj with ⟨s', h1, h2⟩ | h
      · rw [h2]; exact ih (i + 1) s' (by omega) h1
      · exact h
  exact key N 0 s (by omega) h0
theorem Dh {α:Type}{L:Int→Option (Bool⊕Unit)}{a:List α}{f:α→Option Bool}{p:α→Bool}(hf:∀x∈a,f x=some (p x))(hL:∀x,L x=bif decide (x<len a) then (aK a x).bind fun e=>(f e).bind fun r=>bif !r then some (.inl false) else L (ar (x+1)) else some (.inr ()))(hb:a.length<9223372036854775807):L 0=some (if a.all p then .inr () else .inl false):=by
 obtain⟨y,h1,h2⟩:=l3 (L:=fun i (_:Unit)=>L (i:Int)) a.length (fun i _=>(a.take i).all p=true) (fun y=>y=if a.all p then .inr () else .inl false) (s:=())
  (by
   intro i _ hi hj
   have hx:=List.getElem?_eq_getElem hi
   rw[show L (i:Int)=_ from hL _,bB,decide_eq_true hi,cond_true,bK,hx,Option.bind_some,hf _ (List.getElem_mem hi),Option.bind_some,cr (by omega)]
   cases hp:p a[i] with
   | true=>
    refine .inl ⟨(),?_,rfl⟩
    rw[List.take_add_one,hx,List.all_append,hj]
    simp[hp]
   | false=>
    refine .inr ⟨_,?_,rfl⟩
    rw[if_neg]
    intro h
    rw[List.all_eq_true] at h
    rw[h _ (List.getElem_mem hi)] at hp
    cases hp)
  (by
   intro _ hj
   refine⟨_,rfl,?_⟩
   rw[List.take_length] at hj
   rw[show L (a.length:Int)=_ from hL _,bB,decide_eq_false (by omega),cond_false,if_pos hj]) (by simp)
 rw[show L 0=some y from h2,h1]
theorem rn {ρ υ α:Type}{q:α→Bool}{y0 y1:ρ⊕υ}:∀{a:List α} {L:Nat→Option (ρ⊕υ)},(∀(i:Nat) x,a[i]?=some x→L i=bif q x then some y0 else L (i+1))→L a.length=some y1→L 0=some (if a.any q then y0 else y1)
 | [],L,_,he=>by simpa using he
 | x::a,L,hL,he=>by
  rw[hL 0 x rfl,rn (a:=a) (L:=fun i=>L (i+1)) (y0:=y0) (y1:=y1) (fun i z hz=>hL (i+1) z (by simpa using hz)) (by simpa using he),List.any_cons]
  cases q x<;>rfl
def oZ (c:Condition):Bool:=
 if c.Op=1 then decide (c.Parts.length=0)&&(decide (c.Name=[])&&decide (c.Day=0))
 else if c.Op=2 then decide (c.Parts.length=0)&&(eE c.Name&&decide (c.Day=0))
 else if c.Op=3 then decide (c.Parts.length=0)&&(decide (c.Name=[])&&dB c.Day 0 36524)
 else if c.Op=4 then decide (c.Parts.length=1)&&(decide (c.Name=[])&&decide (c.Day=0))
 else if c.Op=5∨c.Op=6 then decide (c.Parts.length=2)&&(decide (c.Name=[])&&decide (c.Day=0))
 else false
mutual
def eb:Condition→Bool
 | ⟨a0,a1,a2,a3⟩=>oZ ⟨a0,a1,a2,a3⟩&&vi a3
def vi:List Condition→Bool
 | []=>true
 | x::xs=>eb x&&vi xs
end
theorem wl:∀a,vi a=a.all eb
 | []=>rfl
 | x::xs=>by simp[vi,wl xs]
theorem tP (c:Condition):eb c=(oZ c&&c.Parts.all eb):=by cases c;simp only[eb,wl]
theorem uZ {α:Type}{a:List α}{n:Nat}:(len a==(n:Int))=decide (a.length=n):=by
 rw[pZ]
 by_cases h:a.length=n
 ·rw[decide_eq_true h,decide_eq_true];simp only[len];omega
 ·rw[decide_eq_false h,decide_eq_false];simp only[len];omega
theorem Nc (c:Condition)(hn:c.Name.length≤1048576):yh c=some (oZ c):=by
 have l0:(len c.Parts==0)=decide (c.Parts.length=0):=uZ (n:=0)
 have l1:(len c.Parts==1)=decide (c.Parts.length=1):=uZ (n:=1)
 have l2:(len c.Parts==2)=decide (c.Parts.length=2):=uZ (n:=2)
 unfold yh oZ
 simp only[fb,mU _ hn,Option.bind_some,om,lw,l0,l1,l2,vm,pZ,xa]
 by_cases o1:c.Op=1
 ·simp only[o1,decide_true,cond_true,if_true]
 by_cases o2:c.Op=2
 ·rw[decide_eq_false o1,decide_eq_true o2,cond_false,cond_true,if_neg o1,if_pos o2]
  cases decide (c.Parts.length=0)<;>rfl
 by_cases o3:c.Op=3
 ·rw[decide_eq_false o1,decide_eq_false o2,decide_eq_true o3,cond_false,cond_false,cond_true,if_neg o1,if_neg o2,if_pos o3]
  cases decide (c.Parts.length=0)<;>cases decide (c.Name=[])<;>rfl
 by_cases o4:c.Op=4
 ·rw[decide_eq_false o1,decide_eq_false o2,decide_eq_false o3,decide_eq_true o4,if_neg o1,if_neg o2,if_neg o3,if_pos o4]
  rfl
 rw[decide_eq_false o1,decide_eq_false o2,decide_eq_false o3,decide_eq_false o4,if_neg o1,if_neg o2,if_neg o3,if_neg o4]
 by_cases o5:c.Op=5
 ·simp only[o5,decide_true,cond_true,cond_false,true_or,if_true]
 ·by_cases o6:c.Op=6
  ·rw[if_pos (.inr o6),decide_eq_false o5,decide_eq_true o6];rfl
  ·rw[if_neg (by omega),decide_eq_false o5,decide_eq_false o6];rfl
theorem K4 (c:Condition):bw c→DA c=some (eb c):=by
 refine eJ (P:=fun c=>bw c→DA c=some (eb c)) ?_ c
 intro c ih hc
 rw[eY] at hc
 rw[Tn]
 unfold qC
 rw[Nc c hc.2.1,Option.bind_some,tP]
 cases oZ c with
 | false=>rfl
 | true=>
  have hl:c.Parts.length≤1048576:=hc.2.2.2.1.1
  simp only[Bool.not_true,cond_false,Bool.true_and]
  rw[Dh (L:=oa (aJ oz) c) (a:=c.Parts) (f:=fun e=>DA e) (p:=eb) (fun x hx=>ih x hx (hc.2.2.2.1.2 x hx)) (fun x=>by rw[K1,jb]<;>rfl) (by omega)]
  cases c.Parts.all eb<;>rfl
theorem uU (a:List Condition)(i:Nat)(h:i<a.length):aE (a.take (i+1))=aE (a.take i)+bf a[i]:=by
 have app:∀(x y:List Condition),aE (x++y)=aE x+aE y:=by
  intro x y
  induction x with
  | nil=>simp[aE]
  | cons z x ih=>simp only[List.cons_append,aE,ih];omega
 rw[List.take_add_one,List.getElem?_eq_getElem h,app]
 simp[aE]
theorem nG (a:List Condition)(i:Nat):aE (a.take i)≤aE a:=by
 have app:∀(x y:List Condition),aE (x++y)=aE x+aE y:=by
  intro x y
  induction x with
  | nil=>simp[aE]
  | cons z x ih=>simp only[List.cons_append,aE,ih];omega
 have:=app (a.take i) (a.drop i)
 rw[List.take_append_drop] at this
 omega
theorem NZ (c:Condition):bf c≤2000000→HH c=some ((bf c:Nat):Int):=by
 refine eJ (P:=fun c=>bf c≤2000000→HH c=some ((bf c:Nat):Int)) ?_ c
 intro c ih hc
 have hc':=eA c
 have hcs:=fW c.Parts
 rw[SL]
 unfold qb
 obtain⟨y,h1,h2⟩:=l3 (L:=fun i (s:Int)=>jV (aJ ju) c (s,(i:Int))) c.Parts.length (fun i s=>s=((1+aE (c.Parts.take i):Nat):Int)) (fun y=>y=.inr ((bf c:Nat):Int)) (s:=1)
  (by
   intro i s hi hj
   have hx:=List.getElem?_eq_getElem hi
   have h3:=uU c.Parts i hi
   have h4:=nG c.Parts (i+1)
   refine .inl ⟨((1+aE (c.Parts.take (i+1)):Nat):Int),rfl,?_⟩
   show jV (aJ ju) c (s,(i:Int))=_
   rw[zX,hI]
   simp only[bB,decide_eq_true hi,cond_true,bK,hx,Option.bind_some]
   rw[show aJ ju c.Parts[i]=some ((bf c.Parts[i]:Nat):Int) from ih _ (List.getElem_mem hi) (by omega),Option.bind_some,cr (by omega),hj,iy (by omega) (by omega)]
   congr 2
   omega)
  (by
   intro s hj
   refine⟨_,rfl,?_⟩
   rw[List.take_length] at hj
   show jV (aJ ju) c (s,(c.Parts.length:Int))=_
   rw[zX,hI]
   simp only[bB,decide_eq_false (Nat.lt_irrefl _),cond_false]
   rw[hj,hc']) (by simp[aE])
 rw[show jV (aJ ju) c (1,0)=some y from h2,h1]
 rfl
def nN (c:Condition):Bool:=eb c&&decide (bf c≤15)
theorem WP {c:Condition}(h:bw c):bf c≤1048577:=by
 rw[eY] at h
 rw[eA]
 omega
theorem Pd (c:Condition)(h:bw c):yT c=some (nN c):=by
 unfold yT nN
 rw[K4 c h,Option.bind_some]
 cases eb c with
 | false=>rfl
 | true=>
  have:=WP h
  simp only[cond_true,Bool.true_and]
  rw[NZ c (by omega),Option.bind_some,dx]
  congr 1
  by_cases h:bf c≤15
  ·rw[decide_eq_true h,decide_eq_true (by omega)]
  ·rw[decide_eq_false h,decide_eq_false (by omega)]
def KN (op:Int):Nat:=if op=4 then 1 else if op=5∨op=6 then 2 else 0
def DI (c:Condition):Bool:=dB c.Op 1 6&&decide (c.Parts.length=KN c.Op)
def zd (c:Condition):Bool:=((c.Op==2) == !(c.Name==([]:ae)))&&((if c.Op=2 then eE c.Name else true)&&((if c.Op=3 then true else decide (c.Day=0))&&dB c.Day 0 36524))
theorem mo {x a b:Int}:dB x a b=true↔a≤x∧x≤b:=by simp[dB]
theorem O2 (c:Condition):((kd c.Op 1 6).bind fun r20=>bM (ρ:=Int) (bif (!r20) then (some (.inr true)) else ((aK [(-1),0,0,0,1,2,2] c.Op).bind fun e22=>some (.inr ((len c.Parts) != e22)))) fun u21:Bool=>(some (.inr u21):Option (Int⊕Bool)))=some (.inr (!DI c)):=by
 rw[jP,Option.bind_some]
 unfold DI
 cases h:dB c.Op 1 6 with
 | false=>rfl
 | true=>
  rw[mo] at h
  have ho:c.Op=1∨c.Op=2∨c.Op=3∨c.Op=4∨c.Op=5∨c.Op=6:=by omega
  have key:aK [(-1),0,0,0,1,2,2] c.Op=some ((KN c.Op:Nat):Int):=by rcases ho with h | h | h | h | h | h<;>rw[h]<;>rfl
  simp only[Bool.not_true,cond_false,key,Option.bind_some,fj,Bool.true_and,bne,uZ]
theorem O6 (c:Condition)(hn:c.Name.length≤1048576):(bif (!((c.Op==2)==(!(c.Name==([]:ae))))) then (some (.inr true)) else (bM (ρ:=Int) (bif (c.Op==2) then ((sP c.Name).bind fun r10=>bM (ρ:=Int) (bif (!r10) then (some (.inr true)) else (bM (ρ:=Int) (bif (c.Op != 3) then (bM (ρ:=Int) (bif (c.Day != 0) then (some (.inr true)) else ((md c.Day).bind fun r14=>some (.inr (!r14)))) fun u13:Bool=>some (.inr u13)) else ((md c.Day).bind fun r15=>some (.inr (!r15)))) fun u12:Bool=>some (.inr u12))) fun u11:Bool=>some (.inr u11)) else (bM (ρ:=Int) (bif (c.Op != 3) then (bM (ρ:=Int) (bif (c.Day != 0) then (some (.inr true)) else ((md c.Day).bind fun r18=>some (.inr (!r18)))) fun u17:Bool=>some (.inr u17)) else ((md c.Day).bind fun r19=>some (.inr (!r19)))) fun u16:Bool=>some (.inr u16))) fun u9:Bool=>(some (.inr u9):Option (Int⊕Bool))))=some (.inr (!zd c)):=by
 unfold zd
 simp only[mY _ hn,md,jP,Option.bind_some,Tu]
 cases ((c.Op==2) == !(c.Name==([]:ae))) with
 | false=>rfl
 | true=>
  simp only[Bool.not_true,cond_false,Bool.true_and]
  by_cases o2:c.Op=2
  ·simp only[o2,if_true,show ((2:Int)==2)=true from rfl,cond_true,show ¬(2:Int)=3 by omega,if_false,decide_false,Bool.not_false]
   cases eE c.Name<;>by_cases hd:c.Day=0<;>simp[hd]
  ·have:(c.Op==2)=false:=beq_eq_false_iff_ne.2 o2
   rw[this,cond_false,if_neg o2]
   by_cases o3:c.Op=3
   ·simp[o3]
   ·by_cases hd:c.Day=0<;>simp[o3,hd]
theorem zh (c:Condition):oZ c=(DI c&&zd c):=by
 have name0:c.Name=[]→eE c.Name=false:=fun h=>by rw[h];rfl
 have d0:c.Day=0→dB c.Day 0 36524=true:=fun h=>by rw[h];rfl
 have in1:dB c.Op 1 6=decide (1≤c.Op∧c.Op≤6):=by rw[Bool.eq_iff_iff,mo,decide_eq_true_iff]
 unfold oZ DI zd
 rw[in1,show KN c.Op=if c.Op=4 then 1 else if c.Op=5∨c.Op=6 then 2 else 0 from rfl]
 by_cases hn:c.Name=[]
 ·by_cases hd:c.Day=0
  ·by_cases o1:c.Op=1
   ·simp[o1,hn,hd,dB]
   by_cases o2:c.Op=2
   ·simp[o2,hn,hd,eE]
   by_cases o3:c.Op=3
   ·simp[o3,hn,hd,dB]
   by_cases o4:c.Op=4
   ·simp[o4,hn,hd,dB]
   by_cases o5:c.Op=5
   ·simp[o5,hn,hd,dB]
   by_cases o6:c.Op=6
   ·simp[o6,hn,hd,dB]
   have:¬(1≤c.Op∧c.Op≤6):=by omega
   simp[o1,o2,o3,o4,o5,o6,decide_eq_false this]
  ·by_cases o3:c.Op=3
   ·simp[o3,hn]
   ·by_cases o2:c.Op=2<;>simp[o2,o3,hd]
 ·have hb:(c.Name==([]:ae))=false:=beq_eq_false_iff_ne.2 hn
  by_cases o2:c.Op=2
  ·by_cases hd:c.Day=0<;>simp[o2,hn,hd,dB,hb]
  ·simp[o2,hn,hb]
theorem Lq (c:Condition):bw c→∀so:Nat,so≤15→Oh c (so:Int)=some (if eb c=true∧so+bf c≤15 then ((so+bf c:Nat):Int) else -1):=by
 refine eJ (P:=fun c=>bw c→∀so:Nat,so≤15→Oh c (so:Int)=some (if eb c=true∧so+bf c≤15 then ((so+bf c:Nat):Int) else -1)) ?_ c
 intro c ih hc so hso
 rw[eY] at hc
 have hnc:=eA c
 rw[Vy]
 unfold uX
 rw[O2,O6 c hc.2.1,cr (by omega),tP,zh]
 by_cases h15:so+1≤15
 ·rw[decide_eq_false (by omega),cond_false]
  cases DI c with
  | false=>rfl
  | true=>
  cases zd c with
  | false=>rfl
  | true=>
   simp only[Bool.not_true,dx,cond_false,Bool.true_and]
   obtain⟨y,h1,h2⟩:=l3 (L:=fun i (s:Int)=>ke (aJ kn) c (so:Int) (s,(i:Int))) c.Parts.length
    (fun i s=>s=((so+1+aE (c.Parts.take i):Nat):Int)∧so+1+aE (c.Parts.take i)≤15∧(c.Parts.take i).all eb=true)
    (fun y=>y=if c.Parts.all eb=true∧so+bf c≤15 then .inr ((so+bf c:Nat):Int) else .inl (-1)) (s:=((so+1:Nat):Int))
    (by
     rintro i s hi ⟨hj,hj2,hj3⟩
     have hx:=List.getElem?_eq_getElem hi
     have h3:=uU c.Parts i hi
     have h4:=nG c.Parts (i+1)
     have h5:=ih _ (List.getElem_mem hi) (hc.2.2.2.1.2 _ (List.getElem_mem hi)) (so+1+aE (c.Parts.take i)) hj2
     show (∃s',_∧ke (aJ kn) c (so:Int) (s,(i:Int))=_)∨∃y,_∧ke (aJ kn) c (so:Int) (s,(i:Int))=_
     rw[Eh,jg]
     simp only[bB,decide_eq_true hi,cond_true,bK,hx,Option.bind_some,hj]
     rw[show aJ kn (c.Parts[i],((so+1+aE (c.Parts.take i):Nat):Int))=_ from h5,Option.bind_some,cr (by have:=hc.2.2.2.1.1;omega)]
     by_cases hq:eb c.Parts[i]=true∧so+1+aE (c.Parts.take i)+bf c.Parts[i]≤15
     ·rw[if_pos hq,decide_eq_false (by omega),cond_false]
      refine .inl ⟨_,⟨?_,?_,?_⟩,rfl⟩
      ·congr 1;omega
      ·omega
      ·rw[List.take_add_one,hx,List.all_append,hj3];simp[hq.1]
     ·rw[if_neg hq,decide_eq_true (by omega),cond_true]
      refine .inr ⟨_,?_,rfl⟩
      rw[if_neg]
      rintro⟨h6,h7⟩
      rw[List.all_eq_true] at h6
      exact hq ⟨h6 _ (List.getElem_mem hi),by omega⟩)
    (by
     rintro s ⟨hj,hj2,hj3⟩
     rw[List.take_length] at *
     show ∃y,_∧ke (aJ kn) c (so:Int) (s,(c.Parts.length:Int))=_
     rw[Eh,jg]
     simp only[bB,decide_eq_false (Nat.lt_irrefl _),cond_false]
     refine⟨_,?_,rfl⟩
     rw[if_pos ⟨hj3,by omega⟩,hj]
     congr 2;omega) ⟨by simp[aE],by simp[aE];omega,by simp⟩
   rw[show ke (aJ kn) c (so:Int) (((so+1:Nat):Int),0)=some y from h2,h1]
   by_cases hq:c.Parts.all eb=true∧so+bf c≤15
   ·rw[if_pos hq,if_pos hq];rfl
   ·rw[if_neg hq,if_neg hq];rfl
 ·rw[decide_eq_true (by omega),cond_true,dx,cond_true,if_neg (by omega)]
theorem NY (c:Condition)(h:bw c):F6 c=some (nN c):=by
 unfold F6 nN
 rw[show (0:Int)=((0:Nat):Int) from rfl,Lq c h 0 (by omega),Option.bind_some]
 have:=eA c
 congr 1
 cases eb c with
 | false=>rfl
 | true=>
  by_cases h:bf c≤15
  ·rw[if_pos ⟨rfl,by omega⟩,decide_eq_true (by omega),decide_eq_true h];rfl
  ·rw[if_neg (by omega),decide_eq_false h];rfl
mutual
def iE:Condition→List ae
 | ⟨op,name,_,parts⟩=>(if op=2 then [name] else [])++dN parts
def dN:List Condition→List ae
 | []=>[]
 | x::xs=>iE x++dN xs
end
theorem Eo (c:Condition):iE c=(if c.Op=2 then [c.Name] else [])++dN c.Parts:=by cases c;simp only[iE]
theorem wh:∀(a b:List Condition),dN (a++b)=dN a++dN b
 | [],b=>rfl
 | x::a,b=>by simp only[List.cons_append,dN,wh a b,List.append_assoc]
theorem uL (a:List Condition)(i:Nat)(h:i<a.length):dN (a.take (i+1))=dN (a.take i)++iE a[i]:=by
 rw[List.take_add_one,List.getElem?_eq_getElem h,wh]
 simp[dN]
mutual
theorem Ay:∀c,(iE c).length≤bf c
 | ⟨op,name,day,parts⟩=>by
  have:=pI parts
  simp only[iE,bf,List.length_append]
  split<;>simp<;>omega
theorem pI:∀a,(dN a).length≤aE a
 | []=>by simp[dN]
 | x::a=>by
  have h1:=Ay x
  have h2:=pI a
  simp only[dN,aE,List.length_append]
  omega
end
theorem JW (c:Condition):∀l:List ae,l.length+bf c≤1000000→M8 c l=some (l++iE c):=by
 refine eJ (P:=fun c=>∀l:List ae,l.length+bf c≤1000000→M8 c l=some (l++iE c)) ?_ c
 intro c ih l hl
 have hnc:=eA c
 have hpl:=fW c.Parts
 rw[UC]
 unfold uV
 have h0:(bif (c.Op==2) then ((kw 16 l [c.Name]).bind fun a8=>some (.inr a8)) else (some (.inr l)):Option (List ae⊕List ae))=some (.inr (l++if c.Op=2 then [c.Name] else [])):=by
  rw[pZ]
  by_cases h:c.Op=2
  ·rw[decide_eq_true h,cond_true,yA (by omega) (by omega),if_pos h];rfl
  ·rw[decide_eq_false h,cond_false,if_neg h,List.append_nil]
 rw[h0,dx]
 have hlen:(l++if c.Op=2 then [c.Name] else []).length≤l.length+1:=by
  rw[List.length_append];split<;>simp
 rw[Eo,←List.append_assoc]
 generalize (l++if c.Op=2 then [c.Name] else [])=l1 at hlen ⊢
 obtain⟨y,h1,h2⟩:=l3 (L:=fun i (s:List ae)=>lL (aJ lA) c l ((i:Int),s)) c.Parts.length (fun i s=>s=l1++dN (c.Parts.take i)) (fun y=>y=.inr (l1++dN c.Parts)) (s:=l1)
  (by
   intro i s hi hj
   have hx:=List.getElem?_eq_getElem hi
   have h3:=uU c.Parts i hi
   have h4:=nG c.Parts (i+1)
   have h5:=pI (c.Parts.take i)
   refine .inl ⟨l1++dN (c.Parts.take (i+1)),rfl,?_⟩
   show lL (aJ lA) c l ((i:Int),s)=_
   rw[EN,i7]
   simp only[bB,decide_eq_true hi,cond_true,bK,hx,Option.bind_some]
   rw[show aJ lA (c.Parts[i],s)=_ from ih _ (List.getElem_mem hi) s (by rw[hj,List.length_append];omega),Option.bind_some,cr (by omega),hj,uL _ _ hi,List.append_assoc])
  (by
   intro s hj
   refine⟨_,rfl,?_⟩
   rw[List.take_length] at hj
   show lL (aJ lA) c l ((c.Parts.length:Int),s)=_
   rw[EN,i7]
   simp only[bB,decide_eq_false (Nat.lt_irrefl _),cond_false]
   rw[hj]) (by simp[dN])
 rw[show lL (aJ lA) c l (0,l1)=some y from h2,h1]
 rfl
theorem Kl {c:Condition}(h:oZ c=true)(ho:c.Op=2∨c.Op=3):c.Parts=[]:=by
 rw[zh,DI,KN] at h
 rw[Bool.and_eq_true,Bool.and_eq_true,decide_eq_true_iff] at h
 have:=h.1.2
 rw[if_neg (by omega),if_neg (by omega)] at this
 exact List.length_eq_zero_iff.1 this
theorem KR (c:Condition):eb c=true→∀l:List ae,l.length+bf c≤1000000→l.Pairwise StrL.Lt→∃r,Gw l c=some r∧r.Pairwise StrL.Lt∧(∀x,x∈r↔x∈l∨x∈iE c)∧r.length≤l.length+bf c:=by
 refine eJ (P:=fun c=>eb c=true→∀l:List ae,l.length+bf c≤1000000→l.Pairwise StrL.Lt→∃r,Gw l c=some r∧r.Pairwise StrL.Lt∧(∀x,x∈r↔x∈l∨x∈iE c)∧r.length≤l.length+bf c) ?_ c
 intro c ih hf l hl hs
 have hnc:=eA c
 have hpl:=fW c.Parts
 rw[tP,Bool.and_eq_true,List.all_eq_true] at hf
 rw[Te]
 unfold qx
 rw[pZ,Eo]
 by_cases ho:c.Op=2
 ·obtain⟨r,e,r1,r2,r3⟩:=StrL.put_val l c.Name (by omega) hs
  rw[decide_eq_true ho,cond_true,e,if_pos ho,Kl hf.1 (.inl ho)]
  exact⟨r,rfl,r1,fun x=>by rw[r2];simp[dN],by omega⟩
 rw[decide_eq_false ho,cond_false,if_neg ho,List.nil_append]
 obtain⟨y,h1,h2⟩:=l3 (L:=fun i (s:List ae)=>jS (aJ jy) l c ((i:Int),s)) c.Parts.length
  (fun i s=>s.Pairwise StrL.Lt∧(∀x,x∈s↔x∈l∨x∈dN (c.Parts.take i))∧s.length≤l.length+aE (c.Parts.take i))
  (fun y=>∃r,y=.inr r∧r.Pairwise StrL.Lt∧(∀x,x∈r↔x∈l∨x∈dN c.Parts)∧r.length≤l.length+bf c) (s:=l)
  (by
   rintro i s hi ⟨j1,j2,j3⟩
   have hx:=List.getElem?_eq_getElem hi
   have h3:=uU c.Parts i hi
   have h4:=nG c.Parts (i+1)
   obtain⟨r,e,r1,r2,r3⟩:=ih _ (List.getElem_mem hi) (hf.2 _ (List.getElem_mem hi)) s (by omega) j1
   refine .inl ⟨r,⟨r1,fun x=>?_,by omega⟩,?_⟩
   ·rw[r2,j2,uL _ _ hi,List.mem_append,or_assoc]
   show jS (aJ jy) l c ((i:Int),s)=_
   rw[BM,hY]
   simp only[bB,decide_eq_true hi,cond_true,bK,hx,Option.bind_some]
   rw[show aJ jy (s,c.Parts[i])=_ from e,Option.bind_some,cr (by omega)])
  (by
   rintro s ⟨j1,j2,j3⟩
   rw[List.take_length] at *
   refine⟨.inr s,⟨s,rfl,j1,j2,by omega⟩,?_⟩
   show jS (aJ jy) l c ((c.Parts.length:Int),s)=_
   rw[BM,hY]
   simp only[bB,decide_eq_false (Nat.lt_irrefl _),cond_false]) ⟨hs,fun x=>by simp[dN],by simp[aE]⟩
 obtain⟨r,rfl,hr⟩:=h1
 rw[show jS (aJ jy) l c (0,l)=some (.inr r) from h2]
 exact⟨r,rfl,hr⟩
theorem tY (l:List ae)(s:ae)(hl:l.length≤1048576):oD l s=some (l.contains s):=by
 unfold oD xS
 rw[ld (L:=nY l s) (a:=l) (p:=fun e=>some (s==e)) (q:=fun e=>s==e) (fun _ _=>rfl) (fun x=>by rw[Ar,jq]<;>rfl) (by omega)]
 cases h:l.findIdx? (fun e=>s==e) with
 | none=>
  have:l.contains s=false:=by
   rw[List.findIdx?_eq_none_iff] at h
   rw[Bool.eq_false_iff]
   intro hc
   rw[List.contains_iff_exists_mem_beq] at hc
   obtain⟨w,hw,he⟩:=hc
   rw[h w hw] at he
   cases he
  rw[this]
  rfl
 | some i=>
  have:l.contains s=true:=by
   rw[List.findIdx?_eq_some_iff_getElem] at h
   obtain⟨hi,he,_⟩:=h
   rw[List.contains_iff_exists_mem_beq]
   exact⟨_,List.getElem_mem hi,he⟩
  rw[this]
  simp
theorem PD (a b:ae):(a==b)=(b==a):=by
 rw[vm,vm]
 by_cases h:a=b
 ·simp[h]
 ·simp[h,Ne.symm h]
theorem JT (l:List ae)(s:ae)(hl:l.length≤1048576):rj l s=some (l.contains s):=by
 unfold rj
 rw[uY (L:=qE l s) (a:=l) (p:=fun e=>some (e==s)) (q:=fun e=>e==s) (r:=true) (fun _ _=>rfl) (fun x=>by rw[JX,lc]<;>rfl) (by omega)]
 have:(l.any fun e=>e==s)=l.contains s:=by
  rw[List.contains_eq_any_beq]
  congr 1
  funext e
  exact PD e s
 rw[this]
 cases l.contains s<;>rfl
def RT (l:List ae)(k:Nat):Bool:=match l[k]? with
 | some e=>!eE e||(l.take k).contains e
 | none=>false
def tJ (l:List ae):Nat→Nat→Bool
 | 0,_=>true
 | n+1,k=>!RT l k&&tJ l n (k+1)
theorem yx {α:Type}{l:List α}{k:Nat}(h:k≤l.length):nq l 0 (k:Int)=some (l.take k):=by
 unfold nq
 rw[if_pos (by omega)]
 simp
theorem vV (l:List ae)(cs:List Clause)(hl:gb kJ l):∀(n k:Nat),k+n=l.length→qw ⟨l,cs⟩ (k:Int)=some (bif tJ l n k then .inr () else .inl false)
 | 0,k,hk=>by
  have h1:=hl.1
  rw[Aq,jw]
  simp only[bB]
  rw[decide_eq_false (by omega)]
  rfl
 | n+1,k,hk=>by
  have h1:=hl.1
  obtain⟨e,he⟩:∃e,l[k]?=some e:=⟨_,List.getElem?_eq_getElem (by omega)⟩
  rw[Aq,jw]
  simp only[bB]
  rw[decide_eq_true (by omega)]
  simp only[cond_true,bK,he,Option.bind_some,mU e (hl.2 e (List.mem_of_getElem? he)),yx (show k≤l.length by omega),JT _ e (show (l.take k).length≤1048576 by rw[List.length_take];omega)]
  rw[cr (by omega),vV l cs hl n (k+1) (by omega)]
  simp only[tJ,RT,he]
  cases eE e<;>cases (l.take k).contains e<;>rfl
theorem wg (l:List ae)(hl:gb kJ l):∀(n k:Nat),k+n=l.length→tV l (k:Int)=some (bif tJ l n k then .inr () else .inl false)
 | 0,k,hk=>by
  have h1:=hl.1
  rw[EB,kE]
  simp only[bB]
  rw[decide_eq_false (by omega)]
  rfl
 | n+1,k,hk=>by
  have h1:=hl.1
  obtain⟨e,he⟩:∃e,l[k]?=some e:=⟨_,List.getElem?_eq_getElem (by omega)⟩
  rw[EB,kE]
  simp only[bB]
  rw[decide_eq_true (by omega)]
  simp only[cond_true,bK,he,Option.bind_some,mY e (hl.2 e (List.mem_of_getElem? he)),yx (show k≤l.length by omega),tY _ e (show (l.take k).length≤1048576 by rw[List.length_take];omega)]
  rw[cr (by omega),wg l hl n (k+1) (by omega)]
  simp only[tJ,RT,he]
  cases eE e<;>cases (l.take k).contains e<;>rfl
def nH (l:List ae):Bool:=tJ l l.length 0&&dB (len l) 2 4
theorem Rl (l:List ae)(cs:List Clause)(hl:gb kJ l):tp ⟨l,cs⟩=some (nH l):=by
 unfold tp nH
 have:=vV l cs hl l.length 0 (by omega)
 rw[show (0:Int)=((0:Nat):Int) by rfl,this]
 simp only[lw]
 cases tJ l l.length 0<;>rfl
theorem P2 (l:List ae)(hl:gb kJ l):F2 l=some (nH l):=by
 unfold F2 nH
 have:=wg l hl l.length 0 (by omega)
 rw[show (0:Int)=((0:Nat):Int) by rfl,this]
 simp only[jP]
 cases tJ l l.length 0<;>rfl
def io (cs:List Clause)(id:ae):Int:=match cs.findIdx? (fun e=>e.Id==id) with
 | some i=>(i:Int)
 | none=>-1
theorem Ek (c:Contract)(id:ae)(hl:c.Clauses.length≤1048576):rL c id=some (io c.Clauses id):=by
 unfold rL io
 rw[ld (L:=qt c id) (a:=c.Clauses) (p:=fun e=>some (e.Id==id)) (q:=fun e=>e.Id==id) (fun _ _=>rfl) (fun x=>by rw[K7,kU]<;>rfl) (by omega)]
 cases c.Clauses.findIdx? (fun e=>e.Id==id)<;>rfl
theorem Ew (c:Contract)(id:ae)(hl:c.Clauses.length≤1048576):CV c id=some (io c.Clauses id):=by
 unfold CV DV io
 rw[ld (L:=re c.Clauses id) (a:=c.Clauses) (p:=fun e=>some (e.Id==id)) (q:=fun e=>e.Id==id) (fun _ _=>rfl) (fun x=>by rw[KO,lf]<;>rfl) (by omega)]
 cases c.Clauses.findIdx? (fun e=>e.Id==id)<;>rfl
theorem Jv (cs:List Clause)(id:ae):io cs id=-1∨∃j:Nat,io cs id=(j:Int)∧j<cs.length:=by
 unfold io
 cases h:cs.findIdx? (fun e=>e.Id==id) with
 | none=>exact .inl rfl
 | some j=>
  rw[List.findIdx?_eq_some_iff_getElem] at h
  exact .inr ⟨j,rfl,h.1⟩
def Gk (cs:List Clause)(i:Int)(e:Clause):Bool:=match io cs e.Repair with
 | .ofNat k=>match cs[k]? with
  | some e'=>((k:Int) != i)&&((e'.Kind==1)&&(e.Kind != 3))
  | none=>false
 | .negSucc _=>false
def iK (c:Contract)(i:Int)(e:Clause):Bool:=
 eE e.Id&&(eE e.Action&&(dB e.Kind 1 4&&(dB e.Party 0 (ar (len c.Parties - 1))&&(dB e.Other 0 (ar (len c.Parties - 1))&&(!(e.Party==e.Other)&&(nN e.When&&(dB e.Amount 0 1000000&&(dB e.Within 0 400&&(!(bif e.Kind != 1 then (bif e.Amount != 0 then true else e.Within != 0) else false) &&
  (bif e.Repair==[] then true else Gk c.Clauses i e))))))))))
theorem QU (c:Contract)(i:Int)(e:Clause)(hl:c.Clauses.length≤1048576):((rL c e.Repair).bind fun r8=>aW (ρ:=Bool) (bif (decide (r8≥0)) then (bM (ρ:=Bool) (bif (r8 != i) then ((aK c.Clauses r8).bind fun e11=>b8 (bif (e11.Kind==1) then ((e.Kind != 3)) else (false)) fun u12:Bool=>some (.inr u12)) else (some (.inr false))) fun u10:Bool=>some (.inr u10)) else (some (.inr false))) fun u9:Bool=>some u9)=some (Gk c.Clauses i e):=by
 rw[Ek c _ hl,Option.bind_some]
 unfold Gk
 rcases Jv c.Clauses e.Repair with h | ⟨j,h,hj⟩
 ·rw[h];rfl
 ·rw[h,decide_eq_true (by omega),cond_true,bK,List.getElem?_eq_getElem hj,Option.bind_some]
  show _=some (match c.Clauses[j]? with | some e'=>_ | none=>false)
  rw[List.getElem?_eq_getElem hj]
  show _=some (((j:Int) != i)&&((c.Clauses[j].Kind==1)&&(e.Kind != 3)))
  cases ((j:Int) != i)<;>cases (c.Clauses[j].Kind==1)<;>rfl
theorem PQ (c:Contract)(i:Int)(e:Clause)(hl:c.Clauses.length≤1048576):((CV c e.Repair).bind fun r10=>aW (ρ:=Bool) (bif (e.Kind != 3) then (bM (ρ:=Bool) (bif (decide (r10≥0)) then (bM (ρ:=Bool) (bif (r10 != i) then ((aK c.Clauses r10).bind fun e14=>some (.inr (e14.Kind==1))) else (some (.inr false))) fun u13:Bool=>some (.inr u13)) else (some (.inr false))) fun u12:Bool=>some (.inr u12)) else (some (.inr false))) fun u11:Bool=>some u11)=some (Gk c.Clauses i e):=by
 rw[Ew c _ hl,Option.bind_some]
 unfold Gk
 rcases Jv c.Clauses e.Repair with h | ⟨j,h,hj⟩
 ·rw[h];cases (e.Kind != 3)<;>rfl
 ·rw[h,decide_eq_true (by omega),cond_true,bK,List.getElem?_eq_getElem hj,Option.bind_some]
  show _=some (match c.Clauses[j]? with | some e'=>_ | none=>false)
  rw[List.getElem?_eq_getElem hj]
  show _=some (((j:Int) != i)&&((c.Clauses[j].Kind==1)&&(e.Kind != 3)))
  cases ((j:Int) != i)<;>cases (c.Clauses[j].Kind==1)<;>cases (e.Kind != 3)<;>rfl
theorem IV (c:Contract)(i:Int)(e:Clause)(he:aK c.Clauses i=some e)(hs:fu e)(hl:c.Clauses.length≤1048576):xH c i=some (iK c i e):=by
 unfold xH iK
 rw[he,Option.bind_some,QU c i e hl]
 simp only[mU _ hs.1,mU _ hs.2.2.2.1,lw,Pd _ hs.2.2.2.2.2.2.1,Option.bind_some,fb]
 cases eE e.Id with | false=>rfl | true=>?_
 cases eE e.Action with | false=>rfl | true=>?_
 cases dB e.Kind 1 4 with | false=>rfl | true=>?_
 cases dB e.Party 0 (ar (len c.Parties - 1)) with | false=>rfl | true=>?_
 cases dB e.Other 0 (ar (len c.Parties - 1)) with | false=>rfl | true=>?_
 cases (e.Party==e.Other) with | true=>rfl | false=>?_
 cases nN e.When with | false=>rfl | true=>?_
 cases dB e.Amount 0 1000000 with | false=>rfl | true=>?_
 cases dB e.Within 0 400 with | false=>rfl | true=>?_
 cases (bif e.Kind != 1 then (bif e.Amount != 0 then true else e.Within != 0) else false) with | true=>rfl | false=>?_
 cases (e.Repair==([]:ae))<;>rfl
theorem I8 (c:Contract)(i:Int)(e:Clause)(he:aK c.Clauses i=some e)(hs:fu e)(hl:c.Clauses.length≤1048576):HG c i=some ((io c.Clauses e.Id==i)&&iK c i e):=by
 unfold HG iK
 rw[he,Option.bind_some,PQ c i e hl]
 simp only[mY _ hs.1,mY _ hs.2.2.2.1,jP,NY _ hs.2.2.2.2.2.2.1,Option.bind_some,fb,Ew c _ hl,bne]
 cases eE e.Id with | false=>cases (io c.Clauses e.Id==i)<;>rfl | true=>?_
 cases (io c.Clauses e.Id==i) with | false=>rfl | true=>?_
 cases eE e.Action with | false=>rfl | true=>?_
 cases dB e.Kind 1 4 with | false=>rfl | true=>?_
 cases dB e.Party 0 (ar (len c.Parties - 1)) with | false=>rfl | true=>?_
 cases dB e.Other 0 (ar (len c.Parties - 1)) with | false=>rfl | true=>?_
 cases (e.Party==e.Other) with | true=>rfl | false=>?_
 cases nN e.When with | false=>rfl | true=>?_
 cases dB e.Amount 0 1000000 with | false=>rfl | true=>?_
 cases dB e.Within 0 400 with | false=>rfl | true=>?_
 cases (bif !(e.Kind==1) then (bif !(e.Amount==0) then true else !(e.Within==0)) else false) with | true=>rfl | false=>?_
 cases (e.Repair==([]:ae))<;>rfl
def pT (c:Contract)(i:Nat):Bool:=match c.Clauses[i]? with
 | some e=>(io c.Clauses e.Id==(i:Int))&&iK c (i:Int) e
 | none=>true
def gw (c:Contract):Bool:=!((List.range c.Clauses.length).any fun i=>!pT c i)
theorem od {c:Contract}:gw c=true↔∀(i:Nat) e,c.Clauses[i]?=some e→io c.Clauses e.Id=(i:Int)∧iK c (i:Int) e=true:=by
 unfold gw
 rw[Bool.not_eq_true',←Bool.not_eq_true,List.any_eq_true]
 constructor
 ·intro h i e he
  have hi:=(List.getElem?_eq_some_iff.1 he).1
  cases h1:pT c i with
  | false=>exact absurd ⟨i,List.mem_range.2 hi,by rw[h1];rfl⟩ h
  | true=>
   simp only[pT,he,Bool.and_eq_true,beq_iff_eq] at h1
   exact h1
 ·rintro h ⟨i,hi,h2⟩
  rw[List.mem_range] at hi
  have h1:=h i _ (List.getElem?_eq_getElem hi)
  simp only[pT,List.getElem?_eq_getElem hi,h1.1,h1.2,beq_self_eq_true,Bool.and_self,Bool.not_true] at h2
  cases h2
theorem GO (c:Contract)(hc:ec c):jQ c 0=some (bif gw c then .inr () else .inl false):=by
 have hl:c.Clauses.length≤1048576:=hc.2.1
 have h:=rn (a:=List.range c.Clauses.length) (q:=fun i=>!pT c i) (y0:=(Sum.inl false:Bool⊕Unit)) (y1:=.inr ()) (L:=fun i=>jQ c (i:Int))
  (fun i x hx=>by
   obtain⟨hi,hx'⟩:=List.getElem?_eq_some_iff.1 hx
   rw[List.getElem_range] at hx'
   subst hx'
   rw[List.length_range] at hi
   have he:=List.getElem?_eq_getElem hi
   have hg:aK c.Clauses (i:Int)=some c.Clauses[i]:=by rw[bK,he]
   show jQ c (i:Int)=_
   rw[Bo,jk,bB,decide_eq_true hi,cond_true,hg,Option.bind_some,Ek c _ hl,Option.bind_some,IV c _ _ hg (hc.2.2 _ (List.getElem_mem hi)) hl,cr (by omega)]
   simp only[pT,he,bne]
   cases (io c.Clauses c.Clauses[i].Id==(i:Int))<;>cases iK c (i:Int) c.Clauses[i]<;>rfl)
  (by
   rw[List.length_range]
   show jQ c (c.Clauses.length:Int)=_
   rw[Bo,jk,bB,decide_eq_false (Nat.lt_irrefl _),cond_false])
 rw[show jQ c 0=_ from h]
 unfold gw
 cases (List.range c.Clauses.length).any fun i=>!pT c i<;>rfl
theorem Gx (c:Contract)(hc:ec c):lI c 0=some (bif gw c then .inr () else .inl false):=by
 have hl:c.Clauses.length≤1048576:=hc.2.1
 have h:=rn (a:=List.range c.Clauses.length) (q:=fun i=>!pT c i) (y0:=(Sum.inl false:Bool⊕Unit)) (y1:=.inr ()) (L:=fun i=>lI c (i:Int))
  (fun i x hx=>by
   obtain⟨hi,hx'⟩:=List.getElem?_eq_some_iff.1 hx
   rw[List.getElem_range] at hx'
   subst hx'
   rw[List.length_range] at hi
   have he:=List.getElem?_eq_getElem hi
   have hg:aK c.Clauses (i:Int)=some c.Clauses[i]:=by rw[bK,he]
   show lI c (i:Int)=_
   rw[D9,kB,bB,decide_eq_true hi,cond_true,I8 c _ _ hg (hc.2.2 _ (List.getElem_mem hi)) hl,Option.bind_some,cr (by omega)]
   simp only[pT,he])
  (by
   rw[List.length_range]
   show lI c (c.Clauses.length:Int)=_
   rw[D9,kB,bB,decide_eq_false (Nat.lt_irrefl _),cond_false])
 rw[show lI c 0=_ from h]
 unfold gw
 cases (List.range c.Clauses.length).any fun i=>!pT c i<;>rfl
def gK (cs:List Clause):List ae:=cs.flatMap fun e=>e.Action::iE e.When
theorem Hb {c:Contract}{i:Int}{e:Clause}(h:iK c i e=true):nN e.When=true:=by
 simp only[iK,Bool.and_eq_true] at h
 exact h.2.2.2.2.2.2.1
theorem pO (cs:List Clause)(i:Nat)(h:i<cs.length):gK (cs.take (i+1))=gK (cs.take i)++(cs[i].Action::iE cs[i].When):=by
 unfold gK
 rw[List.take_add_one,List.getElem?_eq_getElem h,List.flatMap_append]
 simp
theorem xM (c:Contract)(hc:ec c)(h12:c.Clauses.length≤12)(hv:gw c=true):∃r,nr c=some r∧vI c=some r∧r.Pairwise StrL.Lt∧(∀x,x∈r↔x∈gK c.Clauses)∧r.length≤1000:=by
 have hcond:∀i (hi:i<c.Clauses.length),eb c.Clauses[i].When=true∧bf c.Clauses[i].When≤15:=fun i hi=>by
  have h1:=Hb (od.1 hv i _ (List.getElem?_eq_getElem hi)).2
  unfold nN at h1
  rw[Bool.and_eq_true,decide_eq_true_iff] at h1
  exact h1
 have hs:∃r,nr c=some r∧r.Pairwise StrL.Lt∧(∀x,x∈r↔x∈gK c.Clauses)∧r.length≤16*c.Clauses.length:=by
  obtain⟨y,⟨r,rfl,hr⟩,h2⟩:=l3 (L:=fun i (s:List ae)=>kH c ((i:Int),s)) c.Clauses.length
   (fun i s=>s.Pairwise StrL.Lt∧(∀x,x∈s↔x∈gK (c.Clauses.take i))∧s.length≤16*i)
   (fun y=>∃r,y=.inr r∧r.Pairwise StrL.Lt∧(∀x,x∈r↔x∈gK c.Clauses)∧r.length≤16*c.Clauses.length) (s:=[])
   (by
    rintro i s hi ⟨j1,j2,j3⟩
    have he:=List.getElem?_eq_getElem hi
    obtain⟨f1,f2⟩:=hcond i hi
    obtain⟨r1,e1,p1,m1,l1⟩:=StrL.put_val s c.Clauses[i].Action (by omega) j1
    obtain⟨r2,e2,p2,m2,l2⟩:=KR _ f1 r1 (by omega) p1
    refine .inl ⟨r2,⟨p2,fun x=>?_,by omega⟩,?_⟩
    ·rw[m2,m1,j2,pO _ _ hi,List.mem_append,List.mem_cons,or_assoc]
    ·show kH c ((i:Int),s)=_
     rw[AN,jt]
     simp only[bB,decide_eq_true hi,cond_true,bK,he,Option.bind_some,e1,e2]
     rw[cr (by omega)])
   (by
    rintro s ⟨j1,j2,j3⟩
    rw[List.take_length] at j2
    refine⟨.inr s,⟨s,rfl,j1,j2,j3⟩,?_⟩
    show kH c ((c.Clauses.length:Int),s)=_
    rw[AN,jt]
    simp only[bB,decide_eq_false (Nat.lt_irrefl _),cond_false]) ⟨List.Pairwise.nil,fun x=>by simp[gK],by simp⟩
  refine⟨r,?_,hr⟩
  unfold nr
  rw[show kH c (0,[])=some (.inr r) from h2]
  rfl
 obtain⟨r,e,p,m,l⟩:=hs
 refine⟨r,e,?_,p,m,by omega⟩
 obtain⟨y,h1,h2⟩:=l3 (L:=fun i (s:List ae)=>ni c ((i:Int),s)) c.Clauses.length
  (fun i s=>s=gK (c.Clauses.take i)∧s.length≤16*i) (fun y=>y=.inr (gK c.Clauses)∧(gK c.Clauses).length≤16*c.Clauses.length) (s:=[])
  (by
   rintro i s hi ⟨j1,j2⟩
   have he:=List.getElem?_eq_getElem hi
   obtain⟨f1,f2⟩:=hcond i hi
   have hlen:=Ay c.Clauses[i].When
   refine .inl ⟨gK (c.Clauses.take (i+1)),⟨rfl,?_⟩,?_⟩
   ·rw[pO _ _ hi,←j1,List.length_append,List.length_cons];omega
   ·show ni c ((i:Int),s)=_
    rw[En,kD]
    simp only[bB,decide_eq_true hi,cond_true,bK,he,Option.bind_some]
    rw[yA (by omega) (by omega),Option.bind_some,JW _ _ (by rw[List.length_append,List.length_singleton];omega),Option.bind_some,cr (by omega),pO _ _ hi,←j1,List.append_assoc]
    try rfl)
  (by
   rintro s ⟨j1,j2⟩
   rw[List.take_length] at j1
   refine⟨_,⟨rfl,by rw[←j1];exact j2⟩,?_⟩
   show ni c ((c.Clauses.length:Int),s)=_
   rw[En,kD]
   simp only[bB,decide_eq_false (Nat.lt_irrefl _),cond_false]
   rw[j1]) ⟨by simp[gK],by simp⟩
 unfold vI
 rw[show ni c (0,[])=some y from h2,h1.1,dx,SS _ r (by omega) p m]
 rfl
noncomputable def lX (c:Contract):Bool:=(dB (len c.Clauses) 1 12&&nH c.Parties)&&(gw c&&(match nr c with | some r=>decide (len r≤16) | none=>false))
theorem sK (c:Contract)(hc:ec c):yI c=some (lX c):=by
 unfold yI lX
 have hp:=Rl c.Parties c.Clauses hc.1
 rw[lw,show tp c=_ from hp,GO c hc,Option.bind_some]
 cases h1:dB (len c.Clauses) 1 12 with | false=>rfl | true=>?_
 cases nH c.Parties with | false=>rfl | true=>?_
 cases h2:gw c with | false=>rfl | true=>?_
 rw[mo] at h1
 obtain⟨r,e,_⟩:=xM c hc (by simp only[len] at h1;omega) h2
 rw[e]
 rfl
theorem sL (c:Contract)(hc:ec c):GR c=some (lX c):=by
 unfold GR lX
 rw[P2 c.Parties hc.1,Gx c hc,Option.bind_some,jP]
 cases h1:dB (len c.Clauses) 1 12 with | false=>cases nH c.Parties<;>rfl | true=>?_
 cases nH c.Parties with | false=>rfl | true=>?_
 cases h2:gw c with | false=>rfl | true=>?_
 rw[mo] at h1
 obtain⟨r,e,e2,_⟩:=xM c hc (by simp only[len] at h1;omega) h2
 rw[e,e2]
 rfl
theorem F3 {c:Contract}(h:lX c=true):1≤c.Clauses.length∧c.Clauses.length≤12∧nH c.Parties=true∧∀(i:Nat) e,c.Clauses[i]?=some e→io c.Clauses e.Id=(i:Int)∧iK c (i:Int) e=true:=by
 simp only[lX,Bool.and_eq_true,mo] at h
 obtain⟨⟨⟨h1,h2⟩,h3⟩,h4,_⟩:=h
 simp only[len] at h1 h2
 exact⟨by omega,by omega,h3,od.1 h4⟩
theorem zo {α:Type}{L:Int→Option (Int⊕Unit)}{a:List α}{q:α→Bool}(h:L 0=some (match a.findIdx? q with | some i=>.inl (i:Int) | none=>.inr ())):((aW (ρ:=Int) (L 0) fun _:Unit=>some (-1)).bind fun r=>some (decide (r≥0)))=some (a.any q):=by
 rw[h]
 cases h1:a.findIdx? q with
 | none=>
  have:a.any q=false:=by
   rw[List.findIdx?_eq_none_iff] at h1
   rw[List.any_eq_false]
   intro x hx
   rw[h1 x hx]
   exact Bool.false_ne_true
  rw[this]
  rfl
 | some i=>
  have:a.any q=true:=by
   rw[List.findIdx?_eq_some_iff_getElem] at h1
   obtain⟨hi,he,_⟩:=h1
   rw[List.any_eq_true]
   exact⟨_,List.getElem_mem hi,he⟩
  rw[this]
  simp
def pY (l:List ae)(k:Nat):Bool:=match l[k]? with
 | some e=>eE e&&(match k with
  | 0=>true
  | j+1=>match l[j]? with
   | some p=>Op.bytesLess p e
   | none=>true)
 | none=>true
def lB (l:List ae):Bool:=decide (l.length≤16) && !((List.range l.length).any fun k=>!pY l k)
theorem Uq (a b:ae):(Op.bytesLess b a||b==a)=!Op.bytesLess a b:=by
 rcases StrL.tri a b with h | h | h
 ·have h2:Op.bytesLess b a=false:=Bool.eq_false_iff.2 fun h3=>StrL.Lt.asymm h h3
  have h3:(b==a)=false:=beq_eq_false_iff_ne.2 fun e=>StrL.Lt.ne h e.symm
  rw[h2,h3,show Op.bytesLess a b=true from h];rfl
 ·subst h
  rw[StrL.lt_irrefl,beq_self_eq_true];rfl
 ·have h2:Op.bytesLess a b=false:=Bool.eq_false_iff.2 fun h3=>StrL.Lt.asymm h h3
  rw[h2,show Op.bytesLess b a=true from h];rfl
theorem sH (l:List ae)(hl:gb kJ l)(k:Nat)(hk:k<l.length)(hk16:k≤16):gh l (k:Int)=bif !pY l k then some (.inl false) else gh l ((k+1:Nat):Int):=by
 have he:=List.getElem?_eq_getElem hk
 have hlen:l.length≤1048576:=hl.1
 rw[sw,gZ,bB,decide_eq_true hk,cond_true,decide_eq_true (by omega),fb,cond_true,bK,he,Option.bind_some,mU _ (hl.2 _ (List.getElem_mem hk)),Option.bind_some,cr (by omega)]
 cases k with
 | zero=>
  simp only[pY,he]
  cases eE l[0]<;>rfl
 | succ j=>
  have hj:j<l.length:=by omega
  rw[decide_eq_true (by omega),cond_true,show ar (((j+1:Nat):Int) - 1)=(j:Int) by rw[iy (by omega) (by omega)];omega,bK,List.getElem?_eq_getElem hj,Option.bind_some]
  simp only[pY,he,List.getElem?_eq_getElem hj,Option.bind_some]
  cases eE l[j+1]<;>cases Op.bytesLess l[j] l[j+1]<;>rfl
theorem EX (l:List ae)(hl:gb kJ l)(k:Nat)(hk:k<l.length):lR l (k:Int)=bif !pY l k then some (.inl false) else lR l ((k+1:Nat):Int):=by
 have he:=List.getElem?_eq_getElem hk
 have hlen:l.length≤1048576:=hl.1
 rw[Eg,kv,bB,decide_eq_true hk,cond_true,bK,he,Option.bind_some,mY _ (hl.2 _ (List.getElem_mem hk)),Option.bind_some,cr (by omega)]
 cases k with
 | zero=>
  simp only[pY,he]
  cases eE l[0]<;>rfl
 | succ j=>
  have hj:j<l.length:=by omega
  rw[decide_eq_true (by omega),cond_true,show ar (((j+1:Nat):Int) - 1)=(j:Int) by rw[iy (by omega) (by omega)];omega,bK,List.getElem?_eq_getElem hj,Option.bind_some,Uq]
  simp only[pY,he,List.getElem?_eq_getElem hj]
  cases eE l[j+1]<;>cases Op.bytesLess l[j] l[j+1]<;>rfl
theorem na {L:Nat→Option (Bool⊕Unit)}{n:Nat}{q:Nat→Bool}(hs:∀k,k<n→L k=bif q k then some (.inl false) else L (k+1))(he:L n=some (.inr ())):L 0=some (if (List.range n).any q then .inl false else .inr ()):=by
 refine rn (a:=List.range n) (q:=q) (y0:=(Sum.inl false:Bool⊕Unit)) (y1:=.inr ()) (L:=L) (fun i x hx=>?_) (by rw[List.length_range];exact he)
 obtain⟨hi,hx'⟩:=List.getElem?_eq_some_iff.1 hx
 rw[List.getElem_range] at hx'
 subst hx'
 rw[List.length_range] at hi
 exact hs i hi
theorem J6 (l:List ae)(hl:gb kJ l):HS l=some (lB l):=by
 have hlen:l.length≤1048576:=hl.1
 have h:=na (L:=fun k=>lR l (k:Int)) (n:=l.length) (q:=fun k=>!pY l k) (fun k hk=>EX l hl k hk) (by
  show lR l (l.length:Int)=_
  rw[Eg,kv,bB,decide_eq_false (Nat.lt_irrefl _),cond_false])
 unfold HS
 rw[show lR l 0=_ from h]
 unfold lB
 have h16:decide (len l≤16)=decide (l.length≤16):=by
  have:(len l≤16)↔l.length≤16:=by unfold len;omega
  simp only[this]
 cases (List.range l.length).any fun k=>!pY l k<;>simp[h16]
theorem KK (l:List ae)(hl:gb kJ l):xV l=some (lB l):=by
 have hlen:l.length≤1048576:=hl.1
 have h16:decide (len l≤16)=decide (l.length≤16):=by
  have:(len l≤16)↔l.length≤16:=by unfold len;omega
  simp only[this]
 unfold xV
 by_cases hm:l.length≤16
 ·have h:=na (L:=fun k=>gh l (k:Int)) (n:=l.length) (q:=fun k=>!pY l k) (fun k hk=>sH l hl k hk (by omega)) (by
   show gh l (l.length:Int)=_
   rw[sw,gZ,bB,decide_eq_false (Nat.lt_irrefl _),cond_false,fb,cond_false])
  rw[show gh l 0=_ from h]
  unfold lB
  cases (List.range l.length).any fun k=>!pY l k<;>simp[h16]
 ·have h:=na (L:=fun k=>gh l (k:Int)) (n:=17) (q:=fun k=>!pY l k) (fun k hk=>sH l hl k (by omega) (by omega)) (by
   show gh l ((17:Nat):Int)=_
   rw[sw,gZ,bB]
   by_cases h17:17<l.length
   ·rw[decide_eq_true h17];rfl
   ·rw[decide_eq_false h17];rfl)
  rw[show gh l 0=_ from h]
  unfold lB
  rw[h16,decide_eq_false hm]
  cases (List.range 17).any fun k=>!pY l k<;>rfl
def tX (c:Contract)(i:ae):Bool:=c.Clauses.any fun x=>x.Repair==i
theorem RQ (c:Contract)(i:Int)(e:Clause)(he:aK c.Clauses i=some e)(hl:c.Clauses.length≤1048576):yC c i=some (tX c e.Id):=by
 unfold yC
 rw[uY (L:=qq c i) (a:=c.Clauses) (p:=fun x=>some (x.Repair==e.Id)) (q:=fun x=>x.Repair==e.Id) (r:=true) (fun _ _=>rfl) (fun x=>by rw[Kc,kZ];simp only[he,Option.bind_some]) (by omega)]
 unfold tX
 cases c.Clauses.any fun x=>x.Repair==e.Id<;>rfl
theorem Qe (c:Contract)(i:Int)(e:Clause)(he:aK c.Clauses i=some e)(hl:c.Clauses.length≤1048576):Ge c i=some (tX c e.Id):=by
 unfold Ge Dg Dn
 rw[zo (ld (L:=qz c.Clauses (c,i)) (a:=c.Clauses) (p:=fun x=>Gj x c i) (q:=fun x=>x.Repair==e.Id) (fun x _=>by rw[Gj,he];rfl) (fun x=>by rw[Lu,kV]) (by omega))]
 rfl
theorem Re (s:State)(i:Int)(hl:s.Duties.length≤1048576):xN s i=some ((s.Duties.countP (fun d=>d.Clause==i):Nat):Int):=by
 unfold xN
 obtain⟨y,rfl,h⟩:=l3 (L:=fun k (n:Int)=>jU s i (n,(k:Int))) s.Duties.length (fun k n=>n=(((s.Duties.take k).countP (fun d=>d.Clause==i):Nat):Int)) (fun y=>y=.inr ((s.Duties.countP (fun d=>d.Clause==i):Nat):Int)) (s:=0)
  (by
   rintro k n hk rfl
   have hx:=List.getElem?_eq_getElem hk
   refine .inl ⟨_,rfl,?_⟩
   show jU s i (_,(k:Int))=jU s i (_,((k+1:Nat):Int))
   rw[zl,jG]
   simp only[bB,decide_eq_true hk,cond_true,bK,hx,Option.bind_some,fb]
   rw[show ar ((k:Int)+1)=((k+1:Nat):Int) from cr (by omega)]
   have h1:(s.Duties.take (k+1)).countP (fun d=>d.Clause==i)=(s.Duties.take k).countP (fun d=>d.Clause==i)+if (s.Duties[k].Clause==i)=true then 1 else 0:=by
    rw[List.take_add_one,hx,List.countP_append,Option.toList_some,List.countP_singleton]
   have h2:=List.countP_le_length (l:=s.Duties.take k) (p:=fun d=>d.Clause==i)
   rw[List.length_take] at h2
   rw[h1]
   cases h3:s.Duties[k].Clause==i with
   | false=>simp
   | true=>rw[cond_true,iy (by omega) (by omega)];simp)
  (by
   rintro n rfl
   refine⟨_,rfl,?_⟩
   show jU s i (_,(s.Duties.length:Int))=_
   rw[zl,jG]
   simp only[bB,decide_eq_false (Nat.lt_irrefl _),cond_false,List.take_length]) (by simp)
 rw[show jU s i (0,0)=_ from h]
 rfl
theorem OK {α:Type}(l:List α)(i:Int)(hl:l.length≤1048576):dB i 0 (ar (len l - 1))=(aK l i).isSome:=by
 unfold len
 rw[iy (by omega) (by omega)]
 unfold dB aK
 by_cases h0:0≤i
 ·rw[if_pos h0,decide_eq_true h0,Bool.true_and]
  by_cases h1:i≤(l.length:Int) - 1
  ·rw[decide_eq_true h1,List.getElem?_eq_getElem (by omega)];rfl
  ·rw[decide_eq_false h1,List.getElem?_eq_none (by omega)];rfl
 ·rw[if_neg h0,decide_eq_false h0];rfl
def nD (D:List Duty)(k:Nat)(d:Duty):Bool:=match k with
 | 0=>false
 | j+1=>match D[j]? with
  | some p=>decide (p.Since>d.Since)
  | none=>false
def kr (s:State)(d:Duty):Bool:=bif d.Status==1 then (decide (d.Due≥s.Day) && !s.Over) else bif d.Status==2 then true else bif d.Status==3 then decide (d.Due<s.Day) else bif d.Status==4 then s.Over else false
def Uz (s:State)(d:Duty)(e:Clause):Bool:=(e.Kind==1)&&(dB d.Since 0 s.Day&&((d.Due==ar (d.Since+e.Within))&&dB d.Due 0 36524))
def vl (c:Contract)(s:State)(k:Nat)(d:Duty):Bool:=match aK c.Clauses d.Clause with
 | some e=>Uz s d e&&(!nD s.Duties k d&&kr s d)
 | none=>false
def rO (c:Contract)(i:Int):Bool:=match aK c.Clauses i with
 | some e=>tX c e.Id
 | none=>false
theorem Wf {s:State}{d:Duty}(h:kr s d=true):dB d.Status 1 4=true:=by
 unfold kr at h
 rw[mo]
 cases h1:d.Status==1 with
 | true=>have:=eq_of_beq h1;omega
 | false=>
  cases h2:d.Status==2 with
  | true=>have:=eq_of_beq h2;omega
  | false=>
   cases h3:d.Status==3 with
   | true=>have:=eq_of_beq h3;omega
   | false=>
    cases h4:d.Status==4 with
    | true=>have:=eq_of_beq h4;omega
    | false=>rw[h1,h2,h3,h4] at h;cases h
theorem Uk (s:State)(d:Duty)(h:dB d.Status 1 4=true):(bif d.Status==1 then (bif decide (d.Due<s.Day) then true else (bif s.Over then true else (bif d.Status==3 then (bif decide (d.Due≥s.Day) then true else (bif d.Status==4 then !s.Over else false)) else (bif d.Status==4 then !s.Over else false)))) else (bif d.Status==3 then (bif decide (d.Due≥s.Day) then true else (bif d.Status==4 then !s.Over else false)) else (bif d.Status==4 then !s.Over else false)))=!kr s d:=by
 rw[mo] at h
 unfold kr
 have hd:decide (d.Due≥s.Day)=!decide (d.Due<s.Day):=by
  by_cases h2:d.Due<s.Day
  ·rw[decide_eq_true h2,decide_eq_false (by omega)];rfl
  ·rw[decide_eq_false h2,decide_eq_true (by omega)];rfl
 rw[hd]
 generalize decide (d.Due<s.Day)=x
 have h4:d.Status=1∨d.Status=2∨d.Status=3∨d.Status=4:=by omega
 rcases h4 with h4 | h4 | h4 | h4<;>rw[h4]<;>cases x<;>cases s.Over<;>rfl
theorem Mv (c:Contract)(s:State)(k:Nat)(hk:k<s.Duties.length)(hl:s.Duties.length≤1048576)(hc:c.Clauses.length≤1048576) :
  wD c s (k:Int)=some (vl c s k s.Duties[k]&&(rO c s.Duties[k].Clause||s.Duties.countP (fun d=>d.Clause==s.Duties[k].Clause)==1)):=by
 have he:=List.getElem?_eq_getElem hk
 unfold wD
 rw[bK,he,Option.bind_some]
 have hp:∀(f:Bool→Option (Bool⊕Bool)) (g:Duty→Option (Bool⊕Bool)) ,(∀p,g p=f (decide (p.Since>s.Duties[k].Since)))→(bif decide ((k:Int)>0) then ((aK s.Duties (ar ((k:Int) - 1))).bind g) else f false)=f (nD s.Duties k s.Duties[k]):=by
  intro f g hg
  cases k with
  | zero=>rfl
  | succ j=>
   have hj:j<s.Duties.length:=by omega
   rw[decide_eq_true (by omega),cond_true,show ar (((j+1:Nat):Int) - 1)=(j:Int) by rw[iy (by omega) (by omega)];omega,bK,List.getElem?_eq_getElem hj,Option.bind_some,hg]
   simp only[nD,List.getElem?_eq_getElem hj]
 generalize s.Duties[k]=d at *
 rw[lw,Option.bind_some,OK _ _ hc]
 unfold vl
 cases hg:aK c.Clauses d.Clause with
 | none=>rfl
 | some e=>
  rw[Option.isSome_some]
  simp only[Bool.not_true,cond_false,Option.bind_some,lw,om]
  unfold Uz
  cases h1:e.Kind==1 with
  | false=>rw[bne,h1];rfl
  | true=>
   rw[bne,h1]
   cases h2:dB d.Since 0 s.Day with
   | false=>rfl
   | true=>
    cases h3:d.Due==ar (d.Since+e.Within) with
    | false=>rw[bne,h3];rfl
    | true=>
     rw[bne,h3]
     cases h4:dB d.Due 0 36524 with
     | false=>rfl
     | true=>
      cases h5:dB d.Status 1 4 with
      | false=>
       have:kr s d=false:=Bool.eq_false_iff.2 fun h=>by rw[Wf h] at h5;cases h5
       rw[this]
       simp
      | true=>
       simp only[Bool.not_true,cond_false,fj,dx,fb,Uk s d h5]
       rw[show (bif decide ((k:Int)>0) then (aK s.Duties (ar ((k:Int) - 1))).bind (fun e11=>(some (.inr (bif decide (e11.Since>d.Since) then true else !kr s d)):Option (Bool⊕Bool))) else some (.inr (!kr s d)))=some (.inr (bif nD s.Duties k d then true else !kr s d)) from hp (fun b=>some (.inr (bif b then true else !kr s d))) _ (fun p=>rfl)]
       rw[dx]
       rw[show rO c d.Clause=tX c e.Id by unfold rO;rw[hg],RQ c _ e hg hc,Re s _ hl]
       have hcn:∀n:Nat,((n:Int)==1)=(n==1):=fun n=>by
        by_cases h:n=1
        ·subst h;rfl
        ·rw[beq_eq_false_iff_ne.2 h,beq_eq_false_iff_ne.2 (by omega)]
       simp only[Option.bind_some,hcn]
       generalize (List.countP (fun d_1=>d_1.Clause==d.Clause) s.Duties==1)=z
       cases nD s.Duties k d<;>cases kr s d<;>cases tX c e.Id<;>cases z<;>rfl
def pb (D:List Duty)(k:Nat)(i:Int):Bool:=(D.take k).any fun o=>o.Clause==i
theorem NR (c:Contract)(s:State)(k:Nat)(hk:k<s.Duties.length)(hl:s.Duties.length≤1048576)(hc:c.Clauses.length≤1048576) :
  HC c s (k:Int)=some (vl c s k s.Duties[k]&&(rO c s.Duties[k].Clause || !pb s.Duties k s.Duties[k].Clause)):=by
 have he:=List.getElem?_eq_getElem hk
 unfold HC
 rw[bK,he,Option.bind_some]
 have hp:∀(f:Bool→Option (Bool⊕Bool)) (g:Duty→Option (Bool⊕Bool)) ,(∀p,g p=f (decide (p.Since>s.Duties[k].Since)))→(bif decide ((k:Int)>0) then ((aK s.Duties (ar ((k:Int) - 1))).bind g) else f false)=f (nD s.Duties k s.Duties[k]):=by
  intro f g hg
  cases k with
  | zero=>rfl
  | succ j=>
   have hj:j<s.Duties.length:=by omega
   rw[decide_eq_true (by omega),cond_true,show ar (((j+1:Nat):Int) - 1)=(j:Int) by rw[iy (by omega) (by omega)];omega,bK,List.getElem?_eq_getElem hj,Option.bind_some,hg]
   simp only[nD,List.getElem?_eq_getElem hj]
 generalize s.Duties[k]=d at *
 rw[jP,Option.bind_some,OK _ _ hc]
 unfold vl
 cases hg:aK c.Clauses d.Clause with
 | none=>rfl
 | some e=>
  rw[Option.isSome_some]
  simp only[Bool.not_true,cond_false,Option.bind_some,jP,md]
  unfold Uz
  cases h1:e.Kind==1 with
  | false=>rw[bne,h1];rfl
  | true=>
   rw[bne,h1]
   cases h2:dB d.Since 0 s.Day with
   | false=>rfl
   | true=>
    cases h3:d.Due==ar (d.Since+e.Within) with
    | false=>rw[bne,h3];rfl
    | true=>
     rw[bne,h3]
     cases h4:dB d.Due 0 36524 with
     | false=>rfl
     | true=>
      simp only[Bool.not_true,cond_false,fj,dx]
      rw[show (bif decide ((k:Int)>0) then (aK s.Duties (ar ((k:Int) - 1))).bind (fun e17=>(some (.inr (decide (d.Since<e17.Since))):Option (Bool⊕Bool))) else some (.inr false))=some (.inr (nD s.Duties k d)) from hp (fun b=>some (.inr b)) _ (fun p=>rfl)]
      simp only[fj,dx]
      cases nD s.Duties k d with
      | true=>rfl
      | false=>
       rw[cond_false,Qe c _ e hg hc,Option.bind_some,yx (by omega),Option.bind_some]
       unfold DZ Dy
       rw[zo (ld (L:=qo (s.Duties.take k) d) (a:=s.Duties.take k) (p:=fun x=>Jw x d) (q:=fun o=>o.Clause==d.Clause) (fun x _=>rfl) (fun x=>by rw[JZ,kY]) (by rw[List.length_take];omega))]
       rw[show rO c d.Clause=tX c e.Id by unfold rO;rw[hg]]
       unfold pb kr
       cases tX c e.Id<;>cases ((s.Duties.take k).any fun o=>o.Clause==d.Clause)<;>cases (d.Status==1)<;>cases (d.Status==2)<;>cases (d.Status==3)<;>cases (d.Status==4)<;>cases s.Over<;>cases decide (d.Due≥s.Day)<;>cases decide (d.Due<s.Day)<;>rfl
def nQ (c:Contract)(s:State)(k:Nat):Bool:=match s.Duties[k]? with
 | some d=>vl c s k d&&(rO c d.Clause||s.Duties.countP (fun o=>o.Clause==d.Clause)==1)
 | none=>true
def nS (c:Contract)(s:State)(k:Nat):Bool:=match s.Duties[k]? with
 | some d=>vl c s k d&&(rO c d.Clause || !pb s.Duties k d.Clause)
 | none=>true
theorem ED (D:List Duty)(k:Nat)(hk:k<D.length)(p:Duty→Bool):D.countP p=(D.take k).countP p+((if p D[k]=true then 1 else 0)+(D.drop (k+1)).countP p):=by
 conv=>lhs;rw[←List.take_append_drop k D,List.drop_eq_getElem_cons hk]
 rw[List.countP_append,List.countP_cons]
 omega
theorem Mo (c:Contract)(s:State):((List.range s.Duties.length).any fun k=>!nQ c s k)=((List.range s.Duties.length).any fun k=>!nS c s k):=by
 have key:(∀k,k<s.Duties.length→nQ c s k=true)↔(∀k,k<s.Duties.length→nS c s k=true):=by
  constructor
  ·intro h k hk
   have h1:=h k hk
   unfold nQ at h1
   unfold nS
   rw[List.getElem?_eq_getElem hk] at h1 ⊢
   simp only[Bool.and_eq_true,Bool.or_eq_true,beq_iff_eq] at h1 ⊢
   refine⟨h1.1,h1.2.imp id fun h2=>?_⟩
   have h3:=ED s.Duties k hk (fun o=>o.Clause==s.Duties[k].Clause)
   rw[if_pos (by simp),h2] at h3
   have h4:(s.Duties.take k).countP (fun o=>o.Clause==s.Duties[k].Clause)=0:=by omega
   rw[List.countP_eq_zero] at h4
   rw[Bool.not_eq_true',pb,List.any_eq_false]
   exact h4
  ·intro h k hk
   have h1:=h k hk
   unfold nS at h1
   unfold nQ
   rw[List.getElem?_eq_getElem hk] at h1 ⊢
   simp only[Bool.and_eq_true,Bool.or_eq_true,beq_iff_eq] at h1 ⊢
   refine⟨h1.1,?_⟩
   cases hd:rO c s.Duties[k].Clause with
   | true=>exact .inl rfl
   | false=>
    refine .inr ?_
    have h2:pb s.Duties k s.Duties[k].Clause=false:=by
     rcases h1.2 with h2 | h2
     ·rw[hd] at h2;cases h2
     ·simpa using h2
    rw[ED s.Duties k hk (fun o=>o.Clause==s.Duties[k].Clause),if_pos (by simp)]
    have e1:(s.Duties.take k).countP (fun o=>o.Clause==s.Duties[k].Clause)=0:=by
     rw[List.countP_eq_zero]
     rw[pb,List.any_eq_false] at h2
     exact h2
    have e2:(s.Duties.drop (k+1)).countP (fun o=>o.Clause==s.Duties[k].Clause)=0:=by
     rw[List.countP_eq_zero]
     intro x hx hq
     obtain⟨j,hj,rfl⟩:=List.mem_iff_getElem.1 hx
     rw[List.length_drop] at hj
     rw[List.getElem_drop] at hq
     have h5:=h (k+1+j) (by omega)
     unfold nS at h5
     rw[List.getElem?_eq_getElem (by omega)] at h5
     simp only[Bool.and_eq_true,Bool.or_eq_true] at h5
     rw[beq_iff_eq] at hq
     rw[hq,hd] at h5
     have h6:pb s.Duties (k+1+j) s.Duties[k].Clause=true:=by
      rw[pb,List.any_eq_true]
      refine⟨s.Duties[k],?_,by simp⟩
      rw[List.mem_iff_getElem]
      exact⟨k,by rw[List.length_take];omega,by rw[List.getElem_take]⟩
     rw[h6] at h5
     simp at h5
    omega
 rw[Bool.eq_iff_iff,List.any_eq_true,List.any_eq_true]
 have k2:=not_congr key
 simp only[Classical.not_forall] at k2
 simp only[List.mem_range,Bool.not_eq_true']
 constructor
 ·rintro⟨k,hk,hq⟩
  obtain⟨j,hj,hq2⟩:=k2.1 ⟨k,hk,by simp[hq]⟩
  exact⟨j,hj,by simpa using hq2⟩
 ·rintro⟨k,hk,hq⟩
  obtain⟨j,hj,hq2⟩:=k2.2 ⟨k,hk,by simp[hq]⟩
  exact⟨j,hj,by simpa using hq2⟩
def rH (x:Int):Bool:=dB x (-1000000000) 1000000000
theorem Ut (l:List Int)(hl:l.length≤1048576):∃v,rC l=some v∧Eb l=some v:=by
 have h:∃v,iI l (0,0)=some (.inr v):=by
  obtain⟨y,⟨v,rfl⟩,h⟩:=l3 (L:=fun k (n:Int)=>iI l (n,(k:Int))) l.length (fun k n=>True) (fun y=>∃v,y=.inr v) (s:=0)
   (by
    intro k n hk _
    refine .inl ⟨ar (n+l[k]),trivial,?_⟩
    show iI l (_,(k:Int))=iI l (_,((k+1:Nat):Int))
    rw[Ab,jo]
    simp only[bB,decide_eq_true hk,cond_true,bK,List.getElem?_eq_getElem hk,Option.bind_some]
    rw[show ar ((k:Int)+1)=((k+1:Nat):Int) from cr (by omega)])
   (by
    intro n _
    refine⟨.inr n,⟨n,rfl⟩,?_⟩
    show iI l (_,(l.length:Int))=_
    rw[Ab,jo]
    simp only[bB,decide_eq_false (Nat.lt_irrefl _),cond_false]) trivial
  exact⟨v,h⟩
 obtain⟨v,h⟩:=h
 refine⟨v,?_,?_⟩
 ·unfold rC;rw[h];rfl
 ·unfold Eb;rw[show HK l (0,0)=iI l (0,0) from rfl,h];rfl
structure StF (c:Contract) (s:State) (names:List ae):Prop where
 day:dB s.Day 0 36524=true
 facts:lB s.Facts=true
 sub:s.Facts.all (fun f=>names.contains f)=true
 dl:s.Duties.length≤24
 bl:s.Balances.length=c.Parties.length
 dut:∀k,k<s.Duties.length→nQ c s k=true
 amt:s.Balances.all rH=true
 sum:rC s.Balances=some 0
noncomputable def uz (c:Contract)(s:State)(names:List ae)(v:Int):Bool:=
 dB s.Day 0 36524&&(lB s.Facts&&(decide (s.Duties.length≤24)&&((s.Balances.length==c.Parties.length)&&(s.Facts.all (fun f=>names.contains f)&&(!((List.range s.Duties.length).any fun k=>!nQ c s k)&&(s.Balances.all rH&&v==0))))))
theorem Kq (c:Contract)(s:State)(hc:ec c)(hs:mC s)(hb:lX c=true){names:List ae}(hn:nr c=some names)(hnl:names.length≤1048576){v:Int}(hv:rC s.Balances=some v):sj c s=some (uz c s names v):=by
 have hdl:s.Duties.length≤1048576:=hs.2.2.1.1
 have hbl:s.Balances.length≤1048576:=hs.2.2.2.1.1
 have hfl:s.Facts.length≤1048576:=hs.2.1.1
 have hcl:c.Clauses.length≤1048576:=hc.2.1
 unfold sj uz
 rw[sK c hc,Option.bind_some,hb]
 simp only[Bool.not_true,cond_false]
 rw[show om s.Day=some (dB s.Day 0 36524) by unfold om;rw[lw];rfl,Option.bind_some]
 cases dB s.Day 0 36524 with
 | false=>rfl
 | true=>
  simp only[Bool.not_true,cond_false]
  rw[KK _ hs.2.1,Option.bind_some]
  cases lB s.Facts with
  | false=>rfl
  | true=>
   simp only[Bool.not_true,cond_false,fb]
   have h24:decide (len s.Duties>24)=!decide (s.Duties.length≤24):=by
    by_cases h:s.Duties.length≤24
    ·rw[decide_eq_true h,decide_eq_false (by unfold len;omega)];rfl
    ·rw[decide_eq_false h,decide_eq_true (by unfold len;omega)];rfl
   rw[h24]
   cases decide (s.Duties.length≤24) with
   | false=>rfl
   | true=>
    have hbe:(len s.Balances != len c.Parties)=!(s.Balances.length==c.Parties.length):=by
     unfold len
     by_cases h:s.Balances.length=c.Parties.length
     ·rw[h,bne,beq_self_eq_true,beq_self_eq_true]
     ·rw[bne,beq_eq_false_iff_ne.2 h,beq_eq_false_iff_ne.2 (by omega)]
    simp only[Bool.not_true,cond_false]
    rw[hbe]
    cases s.Balances.length==c.Parties.length with
    | false=>rfl
    | true=>
     simp only[Bool.not_true,cond_false,fj,dx]
     rw[hn,Option.bind_some]
     rw[Dh (L:=qN c s names) (a:=s.Facts) (f:=fun e=>rj names e) (p:=fun f=>names.contains f) (fun x _=>JT names x hnl) (fun x=>by rw[KC,kS]) (by omega)]
     cases s.Facts.all (fun f=>names.contains f) with
     | false=>rfl
     | true=>
      rw[if_pos rfl,dx]
      have h:=na (L:=fun k=>li c s (k:Int)) (n:=s.Duties.length) (q:=fun k=>!nQ c s k) (fun k hk=>by
       show li c s (k:Int)=_
       rw[Bt,jp,bB,decide_eq_true hk,cond_true,Mv c s k hk hdl hcl,Option.bind_some,cr (by omega)]
       unfold nQ
       rw[List.getElem?_eq_getElem hk]) (by
       show li c s (s.Duties.length:Int)=_
       rw[Bt,jp,bB,decide_eq_false (Nat.lt_irrefl _),cond_false])
      rw[show li c s 0=_ from h]
      cases (List.range s.Duties.length).any fun k=>!nQ c s k with
      | true=>rfl
      | false=>
       rw[if_neg Bool.false_ne_true,dx]
       rw[Dh (L:=qn c s) (a:=s.Balances) (f:=yg) (p:=rH) (fun x _=>by unfold yg;rw[lw];rfl) (fun x=>by rw[K9,kN]) (by omega)]
       cases s.Balances.all rH with
       | false=>rfl
       | true=>
        rw[if_pos rfl,dx,hv]
        rfl
theorem Lw (c:Contract)(s:State)(hc:ec c)(hs:mC s){names:List ae}(hn:vI c=some names)(hnl:names.length≤1048576){v:Int}(hv:Eb s.Balances=some v):GV c s=some (uz c s names v):=by
 have hdl:s.Duties.length≤1048576:=hs.2.2.1.1
 have hbl:s.Balances.length≤1048576:=hs.2.2.2.1.1
 have hfl:s.Facts.length≤1048576:=hs.2.1.1
 have hcl:c.Clauses.length≤1048576:=hc.2.1
 unfold GV uz
 rw[hn,Option.bind_some]
 rw[show md s.Day=some (dB s.Day 0 36524) by unfold md;rw[jP];rfl,Option.bind_some]
 cases dB s.Day 0 36524 with
 | false=>rfl
 | true=>
  simp only[Bool.not_true,cond_false]
  rw[J6 _ hs.2.1,Option.bind_some]
  cases lB s.Facts with
  | false=>rfl
  | true=>
   simp only[Bool.not_true,cond_false]
   unfold Df DD
   rw[zo (ld (L:=qO s.Facts names) (a:=s.Facts) (p:=fun x=>G8 x names) (q:=fun f=>!names.contains f) (fun x _=>by rw[G8,tY names x hnl];rfl) (fun x=>by rw[Ll,lh]) (by omega))]
   have ha:(s.Facts.any fun f=>!names.contains f)=!(s.Facts.all fun f=>names.contains f):=by rw[List.not_all_eq_any_not]
   rw[ha,Option.bind_some]
   have h24:decide (len s.Duties>24)=!decide (s.Duties.length≤24):=by
    by_cases h:s.Duties.length≤24
    ·rw[decide_eq_true h,decide_eq_false (by unfold len;omega)];rfl
    ·rw[decide_eq_false h,decide_eq_true (by unfold len;omega)];rfl
   have hbe:(len s.Balances != len c.Parties)=!(s.Balances.length==c.Parties.length):=by
    unfold len
    by_cases h:s.Balances.length=c.Parties.length
    ·rw[h,bne,beq_self_eq_true,beq_self_eq_true]
    ·rw[bne,beq_eq_false_iff_ne.2 h,beq_eq_false_iff_ne.2 (by omega)]
   rw[h24,hbe]
   cases s.Facts.all (fun f=>names.contains f) with
   | false=>cases decide (s.Duties.length≤24)<;>cases s.Balances.length==c.Parties.length<;>rfl
   | true=>
    simp only[Bool.not_true,fj,dx,cond_false]
    cases decide (s.Duties.length≤24) with
    | false=>rfl
    | true=>
     cases s.Balances.length==c.Parties.length with
     | false=>rfl
     | true=>
      simp only[Bool.not_true,cond_false,fj,dx,hv,Option.bind_some]
      have h:=na (L:=fun k=>mZ c s (k:Int)) (n:=s.Duties.length) (q:=fun k=>!nS c s k) (fun k hk=>by
       show mZ c s (k:Int)=_
       rw[Eu,kC,bB,decide_eq_true hk,cond_true,NR c s k hk hdl hcl,Option.bind_some,cr (by omega)]
       unfold nS
       rw[List.getElem?_eq_getElem hk]) (by
       show mZ c s (s.Duties.length:Int)=_
       rw[Eu,kC,bB,decide_eq_false (Nat.lt_irrefl _),cond_false])
      rw[show mZ c s 0=_ from h,Mo]
      unfold Di Dv
      rw[zo (ld (L:=qY s.Balances ()) (a:=s.Balances) (p:=fun x=>Hz x) (q:=fun b=>!rH b) (fun x _=>by rw[Hz,JI,jP];rfl) (fun x=>by rw[KQ,lj]) (by omega))]
      have hb2:(s.Balances.any fun b=>!rH b)=!(s.Balances.all rH):=by rw[List.not_all_eq_any_not]
      rw[hb2]
      cases hv0:v==0 with
      | false=>
       rw[bne,hv0]
       cases (List.range s.Duties.length).any fun k=>!nS c s k<;>cases s.Balances.all rH<;>rfl
      | true=>
       rw[bne,hv0]
       cases (List.range s.Duties.length).any fun k=>!nS c s k<;>cases s.Balances.all rH<;>rfl
theorem V3 (c:Contract)(s:State)(hc:ec c)(hs:mC s):∃b,sj c s=some b∧EH c s=some b∧(b=true→lX c=true∧∃names,nr c=some names∧vI c=some names∧StF c s names):=by
 cases hb:lX c with
 | false=>
  refine⟨false,?_,?_,by simp⟩
  ·unfold sj;rw[sK c hc,Option.bind_some,hb];rfl
  ·unfold EH;rw[sL c hc,Option.bind_some,hb];rfl
 | true=>
  obtain⟨f1,f2,f3,f4⟩:=F3 hb
  obtain⟨names,n1,n2,n3,n4⟩:=xM c hc f2 (od.2 f4)
  obtain⟨v,v1,v2⟩:=Ut s.Balances hs.2.2.2.1.1
  have hnl:names.length≤1048576:=Nat.le_trans n4.2 (by decide)
  refine⟨_,Kq c s hc hs hb n1 hnl v1,?_,fun h=>⟨rfl,names,n1,n2,?_⟩⟩
  ·unfold EH
   rw[sL c hc,Option.bind_some,hb,cond_true,Lw c s hc hs n2 hnl v2]
   rfl
  ·unfold uz at h
   simp only[Bool.and_eq_true,decide_eq_true_eq,beq_iff_eq,Bool.not_eq_true'] at h
   obtain⟨g1,g2,g3,g4,g5,g6,g7,g8⟩:=h
   refine⟨g1,g2,g5,g3,g4,fun k hk=>?_,g7,by rw[v1,g8]⟩
   rw[List.any_eq_false] at g6
   have:=g6 k (List.mem_range.2 hk)
   simpa using this
theorem oW (c:Contract)(hc:QK c)(s:State)(hs:wL s):dC c s=some true:=by
 unfold dC
 obtain⟨r1,e1,q1⟩:=Ii c hc (l:=1048576) (by decide) (by decide)
 rw[e1,Option.bind_some]
 rcases q1 with q1 | ⟨q1,p1,s1⟩
 ·rw[decide_eq_true q1,cond_true]
 rw[decide_eq_false (by omega),cond_false]
 obtain⟨r2,e2,q2⟩:=Rj s hs (l:=r1) (by omega) (by omega)
 rw[e2,Option.bind_some]
 rcases q2 with q2 | ⟨q2,p2,s2⟩
 ·rw[decide_eq_true q2,cond_true]
 rw[decide_eq_false (by omega),cond_false]
 obtain⟨b,g1,g2,_⟩:=V3 c s s1 s2
 simp only[IT c s1,QY s s2,Option.bind_some,DM,g1,g2,II c s1,QX s s2,beq_self_eq_true,bne_self_eq_false,Bool.not_true,fb,cond_false]
end Go.Ln
