/-
  The plain law.
-/
import Derived.Test.YtcfddlacocdpoaaGreatDoorFnExactIsForbiddenLib
import Derived.Sort.AssemblyPlain
import Derived.Sort.LotD4
import Derived.Sort.LotD5
set_option linter.unusedVariables false
set_option linter.unusedSimpArgs false
set_option maxRecDepth 100000
namespace Go.Ln
open Go
theorem Bd {α:Type}{b:Nat}{xs:List α}{y:α}(h:(xs.length+1)*b≤1099511627776)(h2:xs.length+1≤1099511627776):iB b xs [y]=some (xs++[y]):=by
 unfold iB
 rw[if_pos]
 simp only[List.length_cons,List.length_nil,kh,Nat.zero_add]
 omega
namespace StrL
theorem lt_irrefl:∀(a:aa),Op.bytesLess a a=false
 | []=>rfl
 | x::xs=>by
  have h:¬x<x:=by simp
  simp[Op.bytesLess,h,lt_irrefl xs]
theorem lt_trans:∀(a b c:aa),Op.bytesLess a b=true→Op.bytesLess b c=true→Op.bytesLess a c=true
 | _,[],_,h,_=>by simp[Op.bytesLess] at h
 | _,_::_,[],_,h=>by simp[Op.bytesLess] at h
 | [],_::_,_::_,_,_=>rfl
 | x::xs,y::ys,z::zs,h1,h2=>by
  simp only[Op.bytesLess,Bool.or_eq_true,decide_eq_true_eq,Bool.and_eq_true,beq_iff_eq] at h1 h2 ⊢
  rcases h1 with h1 | ⟨h1,h3⟩<;>rcases h2 with h2 | ⟨h2,h4⟩
  ·exact .inl (UInt8.lt_trans h1 h2)
  ·subst h2;exact .inl h1
  ·subst h1;exact .inl h2
  ·subst h1;subst h2;exact .inr ⟨rfl,lt_trans xs ys zs h3 h4⟩
def Lt (a b:aa):Prop:=Op.bytesLess a b=true
theorem tri (a b:aa):Lt a b∨a=b∨Lt b a:=by
 have:=KR a b
 unfold Lt
 cases h:Op.bytesLess a b
 ·cases h2:a==b
  ·rw[h,h2] at this;exact .inr (.inr this.symm)
  ·exact .inr (.inl (by simpa using h2))
 ·exact .inl rfl
theorem Lt.irrefl {a:aa}(h:Lt a a):False:=by unfold Lt at h;rw[lt_irrefl] at h;cases h
theorem Lt.trans {a b c:aa}(h:Lt a b)(h2:Lt b c):Lt a c:=lt_trans a b c h h2
theorem Lt.asymm {a b:aa}(h:Lt a b)(h2:Lt b a):False:=(h.trans h2).irrefl
def Le (a b:aa):Prop:=¬Lt b a
theorem Le.lt_or {a b:aa}(h:Le a b):Lt a b∨a=b:=by
 rcases tri a b with h1 | h1 | h1
 ·exact .inl h1
 ·exact .inr h1
 ·exact (h h1).elim
theorem Le.trans {a b c:aa}(h:Le a b)(h2:Le b c):Le a c:=by
 intro h3
 rcases h.lt_or with h4 | rfl
 ·rcases h2.lt_or with h5 | rfl
  ·exact (h4.trans h5).asymm h3
  ·exact h h3
 ·exact h2 h3
theorem Lt.le {a b:aa}(h:Lt a b):Le a b:=fun h2=>h.asymm h2
theorem Lt.ne {a b:aa}(h:Lt a b):a≠b:=fun e=>by subst e;exact h.irrefl
theorem Le.le_lt {a b c:aa}(h:Le a b)(h2:Lt b c):Lt a c:=by
 rcases h.lt_or with h3 | rfl
 ·exact h3.trans h2
 ·exact h2
end StrL
namespace StrL
def ge (a:List aa)(j:Nat):Bool:=match j with
 | 0=>true
 | j+1=>match a[j]?,a[j+1]? with
  | some x,some y=>y != x
  | _,_=>true
def dd (a:List aa):List aa:=kN (ge a) a a.length
theorem GK {a:List aa}{k:Nat}(h:∀j x y,j+1<k→a[j]?=some x→a[j+1]?=some y→y≠x)(hn:k≤a.length):kN (ge a) a k=a.take k:=by
 have e:∀n,n≤k→kN (ge a) a n=a.take n:=by
  intro n
  induction n with
  | zero=>intro _;rfl
  | succ n ih=>
   intro hk
   have h1:n<a.length:=by omega
   have hx:=List.getElem?_eq_getElem h1
   rw[Bj ?_ hx,ih (by omega),List.take_add_one,hx]
   ·rfl
   ·cases n with
    | zero=>rfl
    | succ n=>
     have h2:=List.getElem?_eq_getElem (show n<a.length by omega)
     simp only[ge,h2,hx]
     simpa using h n _ _ (by omega) h2 hx
 exact e k (Nat.le_refl k)
theorem MS {s z:List aa}{x j:Nat}(h1:x≤j)(h2:j<s.length):ug z (0+Int.toNat (x:Int)) (Int.toNat (len s) - Int.toNat (x:Int)) ((j:Int) - (x:Int))=z[j]?:=by
 unfold ug
 simp only[len,Int.toNat_natCast,Nat.zero_add]
 rw[if_pos (by omega),show x+((j:Int) - (x:Int)).toNat=j by omega]
theorem Ks (s:List aa)(x:Nat)(hl:s.length≤1048576)(hx:x<s.length)(h0:kN (ge s) s (x+1)=s.take x):∃(i:Nat) (z:List aa),jQ s (x:Int) ((x:Int),1,s)=some (.inr ((i:Int),z))∧z.length=s.length∧i≤z.length∧z.take i=dd s:=by
 have hD:=X0 (L:=fun q:Int×Int×List aa=>jQ s (x:Int) (q.1,q.2.1 - (x:Int),q.2.2)) (keep:=ge s) (a:=s) (i0:=x)
  (by
   intro i j z y hz hi hij hy hy2 hy3
   obtain⟨h1,_⟩:=List.getElem?_eq_some_iff.1 hy
   have h2:=List.getElem?_eq_getElem (show j - 1<s.length by omega)
   have h4:=List.getElem?_eq_getElem (show i<z.length by omega)
   show jQ s (x:Int) ((i:Int),(j:Int) - (x:Int),z)=bif ge s j then jQ s (x:Int) (((i+1:Nat):Int),((j+1:Nat):Int) - (x:Int),z.set i y) else jQ s (x:Int) ((i:Int),((j+1:Nat):Int) - (x:Int),z)
   have w1:az ((j:Int) - (x:Int) - 1)=((j - 1:Nat):Int) - (x:Int):=by rw[jP (by omega) (by omega)];omega
   have w2:az ((j:Int) - (x:Int)+1)=((j+1:Nat):Int) - (x:Int):=by rw[jP (by omega) (by omega)];omega
   have c1:decide ((j:Int) - (x:Int)<(((Int.toNat (len s) - Int.toNat (x:Int)):Nat):Int))=true:=decide_eq_true (by simp only[len,Int.toNat_natCast];omega)
   rw[C3,ks]
   simp only[c1,cond_true,w1,w2,MS (show x≤j by omega) h1,MS (show x≤j - 1 by omega) (show j - 1<s.length by omega),hy2,hy3,h2,Option.bind_some,cu,Lf,h4,dD (show i<9223372036854775807 by omega)]
   have hk:ge s j=(y != s[j - 1]):=by
    cases j with
    | zero=>omega
    | succ j=>
     simp only[ge,hy,show j+1 - 1=j by omega] at h2 ⊢
     simp only[h2]
   rw[hk]
   show _=bif !(y==s[j - 1]) then _ else _
   cases y==s[j - 1]<;>rfl)
  (by
   intro i j z hz hi hij hj
   show jQ s (x:Int) ((i:Int),(j:Int) - (x:Int),z)=_
   have c1:decide ((j:Int) - (x:Int)<(((Int.toNat (len s) - Int.toNat (x:Int)):Nat):Int))=false:=decide_eq_false (by simp only[len,Int.toNat_natCast];omega)
   rw[C3,ks]
   simp only[c1,cond_false])
  h0 hx
 simp only[show ((x+1:Nat):Int) - (x:Int)=1 by omega] at hD
 exact hD
theorem wd (s:List aa)(hl:s.length≤1048576):∀(n k:Nat),k+n=s.length→1≤k→(∀j x y,j+1<k→s[j]?=some x→s[j+1]?=some y→y≠x)→∃y,pS s (k:Int)=some y∧(y=.inl (dd s)∨y=.inr (dd s))
 | 0,k,hk,h1,h=>by
  refine⟨.inr s,?_,.inr ?_⟩
  ·rw[C2,kr,ch,decide_eq_false (by omega),cond_false]
  ·unfold dd
   rw[GK (k:=s.length) (fun j x y hj=>h j x y (by omega)) (Nat.le_refl _),List.take_length]
 | n+1,k,hk,h1,h=>by
  have h2:k<s.length:=by omega
  have e1:=List.getElem?_eq_getElem h2
  have e2:=List.getElem?_eq_getElem (show k - 1<s.length by omega)
  have w1:az ((k:Int) - 1)=((k - 1:Nat):Int):=by rw[jP (by omega) (by omega)];omega
  rw[C2,kr,ch,decide_eq_true h2,cond_true,w1,cu,cu,e1,e2,Option.bind_some,Option.bind_some,dD (by omega)]
  by_cases hq:s[k]=s[k - 1]
  ·rw[beq_iff_eq.2 hq,cond_true]
   have e3:iO s.length (k:Int) (len s)=some ():=by unfold iO;rw[if_pos (by simp only[len];omega)]
   have hno:ge s k=false:=by
    cases k with
    | zero=>omega
    | succ k=>
     simp only[show k+1 - 1=k by omega] at e2 hq
     simp only[ge,e1,e2,hq,bne_self_eq_false]
   obtain⟨i,z,e,hz,hi,ht⟩:=Ks s k hl h2 (by rw[GO hno,GK h (by omega)])
   rw[e3,Option.bind_some,e,gx]
   refine⟨.inl (dd s),?_,.inl rfl⟩
   rw[←ht]
   exact acs (c:=([]:aa)) (F:=fun p19=>some (Sum.inl p19)) hi
  ·rw[beq_eq_false_iff_ne.2 hq,cond_false]
   refine wd s hl n (k+1) (by omega) (by omega) fun j x y hj hx hy=>?_
   by_cases hj2:j+1<k
   ·exact h j x y hj2 hx hy
   ·obtain rfl:k=j+1:=by omega
    simp only[show j+1 - 1=j by omega] at e2 hq
    rw[e2] at hx
    rw[e1] at hy
    cases hx
    cases hy
    exact hq
theorem compact_val (s:List aa)(hl:s.length≤1048576):zX s=some (dd s):=by
 unfold zX
 by_cases h:len s<2
 ·rw[decide_eq_true h,cond_true]
  have h':s.length<2:=by simp only[len] at h;omega
  unfold dd
  rw[GK (k:=s.length) (fun j x y hj=>by omega) (Nat.le_refl _),List.take_length]
 ·rw[decide_eq_false h,cond_false]
  have h':¬s.length<2:=by simp only[len] at h;omega
  obtain⟨y,hy,hq⟩:=wd s hl (s.length - 1) 1 (by omega) (Nat.le_refl _) (fun j x y hj=>by omega)
  rw[show pS s 1=some y from hy]
  rcases hq with rfl | rfl<;>rfl
end StrL
namespace StrL
theorem Hq {a:List aa}(hs:a.Pairwise Le):∀n,n≤a.length→(kN (ge a) a n).Pairwise Lt∧∀x,x∈kN (ge a) a n↔x∈a.take n
 | 0,_=>by
  have e:kN (ge a) a 0=[]:=rfl
  rw[e]
  exact⟨List.Pairwise.nil,fun x=>by simp⟩
 | n+1,hn=>by
  obtain⟨h1,h2⟩:=Hq hs n (by omega)
  have hlt:n<a.length:=by omega
  have hx:=List.getElem?_eq_getElem hlt
  have hle:∀y∈a.take n,Le y a[n]:=by
   intro y hy
   obtain⟨i,hi,rfl⟩:=List.mem_iff_getElem.1 hy
   rw[List.length_take] at hi
   rw[List.getElem_take]
   exact List.pairwise_iff_getElem.1 hs i n (by omega) hlt (by omega)
  cases hk:ge a n with
  | true=>
   rw[Bj hk hx]
   have hstrict:∀y∈a.take n,Lt y a[n]:=by
    intro y hy
    cases n with
    | zero=>simp at hy
    | succ j=>
     have h3:=List.getElem?_eq_getElem (show j<a.length by omega)
     have hne:a[j+1]≠a[j]:=by
      simp only[ge,h3,hx] at hk
      simpa using hk
     have hj:Le a[j] a[j+1]:=List.pairwise_iff_getElem.1 hs j (j+1) (by omega) hlt (by omega)
     obtain⟨i,hi,rfl⟩:=List.mem_iff_getElem.1 hy
     rw[List.length_take] at hi
     rw[List.getElem_take]
     have hlt2:Lt a[j] a[j+1]:=hj.lt_or.resolve_right fun e=>hne e.symm
     by_cases e:i=j
     ·subst e;exact hlt2
     ·have:=List.pairwise_iff_getElem.1 hs i j (by omega) (by omega) (by omega)
      exact this.le_lt hlt2
   refine⟨List.pairwise_append.2 ⟨h1,List.pairwise_singleton _ _,fun y hy z hz=>?_⟩,fun x=>?_⟩
   ·rw[List.mem_singleton] at hz
    subst hz
    exact hstrict y ((h2 y).1 hy)
   ·rw[List.take_add_one,hx,List.mem_append,List.mem_append,h2]
    rfl
  | false=>
   rw[GO hk]
   refine⟨h1,fun x=>?_⟩
   rw[h2,List.take_add_one,hx,List.mem_append]
   constructor
   ·exact .inl
   ·rintro (h | h)
    ·exact h
    ·have e:x=a[n]:=by simpa using h
     subst e
     cases n with
     | zero=>simp[ge] at hk
     | succ j=>
      have h3:=List.getElem?_eq_getElem (show j<a.length by omega)
      simp only[ge,h3,hx] at hk
      have e:a[j+1]=a[j]:=by simpa using hk
      rw[e]
      have:a[j]∈a.take (j+1):=by
       rw[List.mem_iff_getElem]
       exact⟨j,by rw[List.length_take];omega,by rw[List.getElem_take]⟩
      exact this
theorem dd_ok {a:List aa}(hs:a.Pairwise Le):(dd a).Pairwise Lt∧∀x,x∈dd a↔x∈a:=by
 have:=Hq hs a.length (Nat.le_refl _)
 rw[List.take_length] at this
 exact this
theorem asc_uniq:∀{a b:List aa},a.Pairwise Lt→b.Pairwise Lt→(∀x,x∈a↔x∈b)→a=b
 | [],[],_,_,_=>rfl
 | [],y::b,_,_,h=>absurd ((h y).2 (by simp)) (by simp)
 | x::a,[],_,_,h=>absurd ((h x).1 (by simp)) (by simp)
 | x::a,y::b,ha,hb,h=>by
  rw[List.pairwise_cons] at ha hb
  have e:x=y:=by
   have h1:=(h x).1 (by simp)
   have h2:=(h y).2 (by simp)
   rw[List.mem_cons] at h1 h2
   rcases h1 with h1 | h1
   ·exact h1
   ·rcases h2 with h2 | h2
    ·exact h2.symm
    ·exact ((ha.1 y h2).asymm (hb.1 x h1)).elim
  subst e
  rw[asc_uniq ha.2 hb.2 fun z=>?_]
  constructor
  ·intro hz
   have h1:=(h z).1 (List.mem_cons_of_mem _ hz)
   rcases List.mem_cons.1 h1 with e | h1
   ·subst e;exact (ha.1 z hz).irrefl.elim
   ·exact h1
  ·intro hz
   have h1:=(h z).2 (List.mem_cons_of_mem _ hz)
   rcases List.mem_cons.1 h1 with e | h1
   ·subst e;exact (hb.1 z hz).irrefl.elim
   ·exact h1
theorem Kn {b:Nat}{xs ys:List aa}(h:(xs.length+ys.length)*b≤1099511627776)(h2:xs.length+ys.length≤1099511627776):iB b xs ys=some (xs++ys):=by
 unfold iB
 rw[if_pos]
 simp only[kh]
 omega
theorem K7 (l:List aa)(n:aa)(m:Nat)(hm:m≤l.length)(hl:l.length≤1048576)(h1:∀(j:Nat) x,j<m→l[j]?=some x→Lt x n)(h2:∀x,l[m]?=some x→¬Lt x n):∀(k j:Nat),j+k=m→sw l n (j:Int)=some (.inr (n,(m:Int),l))
 | 0,j,hj=>by
  obtain rfl:j=m:=by omega
  rw[D1,ky,ch]
  by_cases h:j<l.length
  ·rw[decide_eq_true h,cond_true,cu,List.getElem?_eq_getElem h,Option.bind_some,gx,show Op.bytesLess l[j] n=false from by simpa[Lt] using h2 _ (List.getElem?_eq_getElem h),cond_false]
  ·rw[decide_eq_false h,cond_false,gx,cond_false]
 | k+1,j,hj=>by
  have h:j<l.length:=by omega
  rw[D1,ky,ch,decide_eq_true h,cond_true,cu,List.getElem?_eq_getElem h,Option.bind_some,gx,show Op.bytesLess l[j] n=true from h1 j _ (by omega) (List.getElem?_eq_getElem h),cond_true,dD (by omega)]
  exact K7 l n m hm hl h1 h2 k (j+1) (by omega)
theorem put_val (l:List aa)(n:aa)(hl:l.length≤1000000)(hs:l.Pairwise Lt):∃r,vG l n=some r∧r.Pairwise Lt∧(∀x,x∈r↔x∈l∨x=n)∧r.length≤l.length+1:=by
 have key:∃m,m≤l.length∧(∀(j:Nat) x,j<m→l[j]?=some x→Lt x n)∧(∀x,l[m]?=some x→¬Lt x n):=by
  clear hl
  induction l with
  | nil=>exact⟨0,by simp,fun j x hj=>by omega,fun x hx=>by simp at hx⟩
  | cons y l ih=>
   by_cases hy:Lt y n
   ·obtain⟨m,h1,h2,h3⟩:=ih (List.pairwise_cons.1 hs).2
    refine⟨m+1,by simp;omega,fun j x hj hx=>?_,fun x hx=>h3 x (by simpa using hx)⟩
    cases j with
    | zero=>simp at hx;subst hx;exact hy
    | succ j=>exact h2 j x (by omega) (by simpa using hx)
   ·exact⟨0,by simp,fun j x hj=>by omega,fun x hx=>by simp at hx;subst hx;exact hy⟩
 obtain⟨m,hm,h1,h2⟩:=key
 have hlow:∀x∈l.take m,Lt x n:=by
  intro x hx
  obtain⟨i,hi,rfl⟩:=List.mem_iff_getElem.1 hx
  rw[List.length_take] at hi
  rw[List.getElem_take]
  exact h1 i _ (by omega) (List.getElem?_eq_getElem (by omega))
 have hloop:=K7 l n m hm (by omega) h1 h2 m 0 (by omega)
 rw[show ((0:Nat):Int)=0 from rfl] at hloop
 unfold vG
 rw[hloop]
 simp only[em,ch]
 have s1:iO l.length 0 (m:Int)=some ():=by unfold iO;rw[if_pos (by omega)]
 have s2:iO l.length (m:Int) (len l)=some ():=by unfold iO;rw[if_pos (by simp only[len];omega)]
 have p1:iR l (0+Int.toNat 0) (Int.toNat (m:Int) - Int.toNat 0)=some (l.take m):=by
  unfold iR
  simp only[Int.toNat_zero,Int.toNat_natCast,Nat.zero_add,Nat.sub_zero,List.drop_zero]
  rw[if_pos hm]
 have p2:iR l (0+Int.toNat (m:Int)) (Int.toNat (len l) - Int.toNat (m:Int))=some (l.drop m):=by
  unfold iR
  simp only[Int.toNat_natCast,Nat.zero_add,len]
  rw[if_pos (by omega),List.take_of_length_le (by rw[List.length_drop];omega)]
 have a1:iB 16 ([]:List aa) (l.take m)=some (l.take m):=by rw[Kn (by simp only[List.length_nil,List.length_take];omega) (by simp only[List.length_nil,List.length_take];omega)];rfl
 have a2:iB 16 (l.take m) [n]=some (l.take m++[n]):=Bd (by rw[List.length_take];omega) (by rw[List.length_take];omega)
 have a3:iB 16 (l.take m++[n]) (l.drop m)=some (l.take m++[n]++l.drop m):=Kn (by simp only[List.length_append,List.length_take,List.length_drop,List.length_singleton];omega) (by simp only[List.length_append,List.length_take,List.length_drop,List.length_singleton];omega)
 have hins:(∀x∈l.drop m,Lt n x)→(l.take m++[n]++l.drop m).Pairwise Lt∧(∀x,x∈l.take m++[n]++l.drop m↔x∈l∨x=n)∧(l.take m++[n]++l.drop m).length≤l.length+1:=by
  intro hhi
  have hs2:=hs
  rw[←List.take_append_drop m l,List.pairwise_append] at hs2
  refine⟨List.pairwise_append.2 ⟨List.pairwise_append.2 ⟨hs2.1,List.pairwise_singleton _ _,fun x hx y hy=>?_⟩,hs2.2.1,fun x hx y hy=>?_⟩,fun x=>?_,?_⟩
  ·rw[List.mem_singleton] at hy;subst hy;exact hlow x hx
  ·rcases List.mem_append.1 hx with hx | hx
   ·exact hs2.2.2 x hx y hy
   ·rw[List.mem_singleton] at hx;subst hx;exact hhi y hy
  ·have:x∈l↔x∈l.take m∨x∈l.drop m:=by
    rw[←List.mem_append,List.take_append_drop]
   rw[List.mem_append,List.mem_append,List.mem_singleton,this]
   constructor
   ·rintro ((h | h) | h)
    ·exact .inl (.inl h)
    ·exact .inr h
    ·exact .inl (.inr h)
   ·rintro ((h | h) | h)
    ·exact .inl (.inl h)
    ·exact .inr h
    ·exact .inl (.inr h)
  ·simp only[List.length_append,List.length_take,List.length_drop,List.length_singleton];omega
 by_cases hb:m<l.length
 ·have hx:=List.getElem?_eq_getElem hb
  have hge:=h2 _ hx
  have hrest:∀x∈l.drop (m+1),Lt l[m] x:=by
   intro x hx
   obtain⟨i,hi,rfl⟩:=List.mem_iff_getElem.1 hx
   rw[List.length_drop] at hi
   rw[List.getElem_drop]
   exact List.pairwise_iff_getElem.1 hs m (m+1+i) hb (by omega) (by omega)
  rw[decide_eq_true hb,cond_true,cu,hx,Option.bind_some,em,xo]
  by_cases he:l[m]=n
  ·rw[decide_eq_true he,cond_true]
   refine⟨l,rfl,hs,fun x=>⟨.inl,?_⟩,by omega⟩
   rintro (h | h)
   ·exact h
   ·rw[h,←he];exact List.getElem_mem hb
  ·rw[decide_eq_false he,cond_false]
   simp only[s1,p1,a1,a2,s2,p2,a3,Option.bind_some]
   refine⟨_,rfl,hins ?_⟩
   intro x hx
   rw[List.drop_eq_getElem_cons hb] at hx
   rcases List.mem_cons.1 hx with rfl | hx
   ·exact (tri n l[m]).resolve_right fun h=>h.elim (fun e=>he e.symm) hge
   ·have h1:Lt n l[m]:=(tri n l[m]).resolve_right fun h=>h.elim (fun e=>he e.symm) hge
    exact h1.trans (hrest x hx)
 ·rw[decide_eq_false hb,cond_false,em,cond_false]
  simp only[s1,p1,a1,a2,s2,p2,a3,Option.bind_some]
  refine⟨_,rfl,hins ?_⟩
  intro x hx
  rw[List.drop_of_length_le (by omega)] at hx
  cases hx
end StrL
theorem xq {x y:aa}:decide (x≤y)=true↔StrL.Le x y:=by
 unfold StrL.Le StrL.Lt
 rw[Go.Proofs.bytesLess_eq,decide_eq_true_iff,decide_eq_true_iff]
 exact Iff.rfl
theorem Wz (l:List aa):(l.mergeSort fun x y=>decide (x≤y)).Pairwise StrL.Le:=by
 have h:=List.pairwise_mergeSort (le:=fun x y:aa=>decide (x≤y)) (fun x y z h1 h2=>by
  rw[xq] at *;exact h1.trans h2) (fun x y=>by
  rw[Bool.or_eq_true,xq,xq]
  rcases StrL.tri x y with h | h | h
  ·exact .inl h.le
  ·subst h;exact .inl fun h=>h.irrefl
  ·exact .inr h.le) l
 exact h.imp fun {x y} h=>xq.1 h
theorem TF (l r:List aa)(hl:l.length≤1048576)(hr:r.Pairwise StrL.Lt)(hm:∀x,x∈r↔x∈l):yV l=some r:=by
 unfold yV tw
 have hl2:(l.mergeSort fun (x y:aa)=>decide (x≤y)).length=l.length:=List.length_mergeSort _
 rw[Nat.ble_eq_true_of_le hl,cond_true,Option.bind_some,hl2,Nat.beq_refl,cond_true,StrL.compact_val _ (by rw[hl2];exact hl),Option.bind_some]
 obtain⟨h1,h2⟩:=StrL.dd_ok (Wz l)
 congr 1
 refine StrL.asc_uniq h1 hr fun x=>?_
 rw[h2,hm]
 exact (List.mergeSort_perm l _).mem_iff
theorem Bf (b x:Bool):(bif b then x else false)=(b&&x):=by cases b<;>rfl
def eo (x a b:Int):Bool:=decide (x≥a)&&decide (x≤b)
theorem ls (x a b:Int):dY x a b=some (eo x a b):=by simp only[dY,gm,Bf,eo]
theorem jY (x a b:Int):ij x a b=some (eo x a b):=by simp only[ij,gm,Bf,eo]
def ki (c:UInt8):Bool:=(decide (97≤c.toNat)&&decide (c.toNat≤122))||(decide (48≤c.toNat)&&decide (c.toNat≤57))
theorem Tm (c:UInt8):vI (c.toNat:Int)=some (ki c):=by
 simp only[vI,ki,gm]
 by_cases h1:97≤c.toNat<;>by_cases h2:c.toNat≤122<;>by_cases h3:48≤c.toNat<;>by_cases h4:c.toNat≤57<;>simp[h1,h2,h3,h4,show ((97:Int)≤c.toNat)↔97≤c.toNat by omega,show ((c.toNat:Int)≤122)↔c.toNat≤122 by omega,show ((48:Int)≤c.toNat)↔48≤c.toNat by omega,show ((c.toNat:Int)≤57)↔c.toNat≤57 by omega]
def lu:List aa:=[[116,114,117,101],[102,114,111,109],[110,111,116],[97,110,100],[111,114],[98,111,116,104],[101,105,116,104,101,114],[105,116],[105,110]]
def fN (s:aa):Bool:=match s with
 | []=>false
 | c::r=>decide (r.length<8)&&decide (97≤c.toNat)&&decide (c.toNat≤122)&&s.all ki && !lu.contains s
theorem XZ (b x:Bool):(bif b then b else x)=(b||x):=by cases b<;>rfl
theorem Ms:A4 [116,114,117,101,32,102,114,111,109,32,110,111,116,32,97,110,100,32,111,114,32,98,111,116,104,32,101,105,116,104,101,114,32,105,116,32,105,110] [32]=some lu:=by
 have h:wV [116,114,117,101,32,102,114,111,109,32,110,111,116,32,97,110,100,32,111,114,32,98,111,116,104,32,101,105,116,104,101,114,32,105,116,32,105,110] [32] 0 (-1) 9 ([116,114,117,101,32,102,114,111,109,32,110,111,116,32,97,110,100,32,111,114,32,98,111,116,104,32,101,105,116,104,101,114,32,105,116,32,105,110],0,List.replicate 9 [])=some (.inr ([105,110],8,[[116,114,117,101],[102,114,111,109],[110,111,116],[97,110,100],[111,114],[98,111,116,104],[101,105,116,104,101,114],[105,116],[]])):=
  (iE (fun a=>(ym _ _ _ _ _ a).1)).2 ⟨20,by decide +kernel⟩
 have e:A4 [116,114,117,101,32,102,114,111,109,32,110,111,116,32,97,110,100,32,111,114,32,98,111,116,104,32,101,105,116,104,101,114,32,105,116,32,105,110] [32]=(bd (wV [116,114,117,101,32,102,114,111,109,32,110,111,116,32,97,110,100,32,111,114,32,98,111,116,104,32,101,105,116,104,101,114,32,105,116,32,105,110] [32] 0 (-1) 9 ([116,114,117,101,32,102,114,111,109,32,110,111,116,32,97,110,100,32,111,114,32,98,111,116,104,32,101,105,116,104,101,114,32,105,116,32,105,110],0,List.replicate 9 [])) fun u12:aa×Int×(List aa)=>(aP u12.2.2 u12.2.1).bind fun e13=>(iO (fO u12.2.2 u12.2.1 u12.1).length 0 (az (u12.2.1+1))).bind fun s14=>(iR (fO u12.2.2 u12.2.1 u12.1) (0+Int.toNat (0)) (Int.toNat ((az (u12.2.1+1))) - Int.toNat (0))).bind fun p15=>some p15).bind fun r=>some r:=by rfl
 rw[e,h]
 rfl
theorem GJ (s:aa):mR lu s=some (lu.contains s):=by
 unfold mR vu
 rw[i7 (L:=nS lu s) (a:=lu) (p:=fun e=>some (s==e)) (q:=fun e=>s==e) (fun _ _=>rfl) (fun x=>by rw[tE,ji]<;>rfl) (by decide)]
 cases h:lu.findIdx? (fun e=>s==e) with
 | none=>
  have:lu.contains s=false:=by
   rw[List.findIdx?_eq_none_iff] at h
   rw[Bool.eq_false_iff]
   intro hc
   rw[List.contains_iff_exists_mem_beq] at hc
   obtain⟨w,hw,he⟩:=hc
   rw[h w hw] at he
   cases he
  rw[this]
  rfl
 | some i=>
  have:lu.contains s=true:=by
   rw[List.findIdx?_eq_some_iff_getElem] at h
   obtain⟨hi,he,_⟩:=h
   rw[List.contains_iff_exists_mem_beq]
   exact⟨_,List.getElem_mem hi,he⟩
  rw[this]
  simp
theorem OL (s:aa):(bif s==[116,114,117,101] then s==[116,114,117,101] else bif s==[102,114,111,109] then s==[102,114,111,109] else bif s==[110,111,116] then s==[110,111,116] else bif s==[97,110,100] then s==[97,110,100] else bif s==[111,114] then s==[111,114] else bif s==[98,111,116,104] then s==[98,111,116,104] else bif s==[101,105,116,104,101,114] then s==[101,105,116,104,101,114] else bif s==[105,116] then s==[105,116] else s==[105,110])=lu.contains s:=by
 simp only[XZ,lu,List.contains_cons,List.contains_nil,Bool.or_false]
theorem mO (s:aa)(hs:s.length≤1048576):pg s=some (fN s):=by
 unfold pg dY fN
 simp only[gm,Option.bind_some,OL]
 cases s with
 | nil=>rfl
 | cons c r=>
  have e1:decide (len (c::r)≥1)=true:=decide_eq_true (by simp[len];omega)
  have e2:decide (len (c::r)≤8)=decide (r.length<8):=by simp only[len,List.length_cons];congr 1;apply propext;omega
  have e3:aP (c::r) (0:Int)=some c:=rfl
  have e4:decide ((c.toNat:Int)<97)=!decide (97≤c.toNat):=by rw[←decide_not];congr 1;apply propext;omega
  have e5:decide ((c.toNat:Int)>122)=!decide (c.toNat≤122):=by rw[←decide_not];congr 1;apply propext;omega
  rw[e1,e2,e3,sU (r:=false) (L:=ss (c::r)) (a:=c::r) (p:=fun c=>(vI (c.toNat:Int)).bind fun r=>some (!r)) (q:=fun c=>!ki c) (fun x _=>by rw[Tm];rfl) (fun x=>by rw[NG,mq];simp only[Option.bind_assoc,Option.bind_some]) (by omega)]
  simp only[cond_true,Option.bind_some,e4,e5]
  have e6:((c::r).any fun c=>!ki c)=!((c::r).all ki):=by rw[List.not_all_eq_any_not]
  rw[e6]
  cases decide (r.length<8)<;>cases decide (97≤c.toNat)<;>cases decide (c.toNat≤122)<;>cases (c::r).all ki<;>cases lu.contains (c::r)<;>rfl
theorem mI (s:aa)(hs:s.length≤1048576):se s=some (fN s):=by
 unfold se ij fN
 simp only[gm,Option.bind_some,Ms,GJ]
 cases s with
 | nil=>rfl
 | cons c r=>
  have e1:decide (len (c::r)≥1)=true:=decide_eq_true (by simp[len];omega)
  have e2:decide (len (c::r)≤8)=decide (r.length<8):=by simp only[len,List.length_cons];congr 1;apply propext;omega
  have e3:aP (c::r) (0:Int)=some c:=rfl
  have e4:decide ((c.toNat:Int)<97)=!decide (97≤c.toNat):=by rw[←decide_not];congr 1;apply propext;omega
  have e5:decide ((c.toNat:Int)>122)=!decide (c.toNat≤122):=by rw[←decide_not];congr 1;apply propext;omega
  have hp:∀c:UInt8,(bif decide ((c.toNat:Int)<97) then (bif decide ((c.toNat:Int)<48) then true else decide ((c.toNat:Int)>57)) else (bif decide ((c.toNat:Int)>122) then (bif decide ((c.toNat:Int)<48) then true else decide ((c.toNat:Int)>57)) else false))=!ki c:=by
   intro c
   have f1:decide ((c.toNat:Int)<97)=!decide (97≤c.toNat):=by rw[←decide_not];congr 1;apply propext;omega
   have f2:decide ((c.toNat:Int)>122)=!decide (c.toNat≤122):=by rw[←decide_not];congr 1;apply propext;omega
   have f3:decide ((c.toNat:Int)<48)=!decide (48≤c.toNat):=by rw[←decide_not];congr 1;apply propext;omega
   have f4:decide ((c.toNat:Int)>57)=!decide (c.toNat≤57):=by rw[←decide_not];congr 1;apply propext;omega
   rw[f1,f2,f3,f4]
   unfold ki
   by_cases g1:97≤c.toNat
   ·have g3:48≤c.toNat:=by omega
    have g4:¬c.toNat≤57:=by omega
    simp only[g1,g3,g4,decide_true,decide_false]
    cases decide (c.toNat≤122)<;>rfl
   ·simp only[g1,decide_false]
    cases decide (48≤c.toNat)<;>cases decide (c.toNat≤57)<;>rfl
  rw[e1,e2,e3,sU (r:=false) (L:=vt (c::r)) (a:=c::r) (p:=fun c=>some (!ki c)) (q:=fun c=>!ki c) (fun x _=>rfl) (fun x=>by rw[QT,nR];simp only[gm,hp,Option.bind_some]) (by omega)]
  simp only[cond_true,Option.bind_some,e4,e5]
  have e6:((c::r).any fun c=>!ki c)=!((c::r).all ki):=by rw[List.not_all_eq_any_not]
  rw[e6]
  cases decide (r.length<8)<;>cases decide (97≤c.toNat)<;>cases decide (c.toNat≤122)<;>cases (c::r).all ki<;>cases lu.contains (c::r)<;>rfl
theorem nm {ρ υ σ : Type}{L : Nat → σ → Option (ρ ⊕ υ)}(N : Nat)(J : Nat → σ → Prop)(T : ρ ⊕ υ → Prop)(hs : ∀ i s,i < N→J i s→(∃ s',J (i + 1) s' ∧ L i s=L (i + 1) s') ∨ ∃ y,T y ∧ L i s=some y)(he : ∀ s,J N s→∃ y,T y ∧ L N s=some y){s : σ}(h0 : J 0 s) : ∃ y,T y ∧ L 0 s=some y:=by
  have key : ∀ k i s,i + k=N→J i s→∃ y,T y ∧ L i s=some y:=by
    intro k
    induction k with
    | zero => intro i s hi hj; obtain rfl : i = N := by omega
              exact he s hj
    | succ k ih =>
      intro i s hi hj
      rcases hs i s (by omega) hj with ⟨s',h1,h2⟩ | h
      · rw [h2]; exact ih (i + 1) s' (by omega) h1
      · exact h
  exact key N 0 s (by omega) h0
theorem GI {α:Type}{L:Int→Option (Bool⊕Unit)}{a:List α}{f:α→Option Bool}{p:α→Bool}(hf:∀x∈a,f x=some (p x))(hL:∀x,L x=bif decide (x<len a) then (aP a x).bind fun e=>(f e).bind fun r=>bif !r then some (.inl false) else L (az (x+1)) else some (.inr ()))(hb:a.length<9223372036854775807):L 0=some (if a.all p then .inr () else .inl false):=by
 obtain⟨y,h1,h2⟩:=nm (L:=fun i (_:Unit)=>L (i:Int)) a.length (fun i _=>(a.take i).all p=true) (fun y=>y=if a.all p then .inr () else .inl false) (s:=())
  (by
   intro i _ hi hj
   have hx:=List.getElem?_eq_getElem hi
   rw[show L (i:Int)=_ from hL _,ch,decide_eq_true hi,cond_true,cu,hx,Option.bind_some,hf _ (List.getElem_mem hi),Option.bind_some,dD (by omega)]
   cases hp:p a[i] with
   | true=>
    refine .inl ⟨(),?_,rfl⟩
    rw[List.take_add_one,hx,List.all_append,hj]
    simp[hp]
   | false=>
    refine .inr ⟨_,?_,rfl⟩
    rw[if_neg]
    intro h
    rw[List.all_eq_true] at h
    rw[h _ (List.getElem_mem hi)] at hp
    cases hp)
  (by
   intro _ hj
   refine⟨_,rfl,?_⟩
   rw[List.take_length] at hj
   rw[show L (a.length:Int)=_ from hL _,ch,decide_eq_false (by omega),cond_false,if_pos hj]) (by simp)
 rw[show L 0=some y from h2,h1]
theorem tU {ρ υ α:Type}{q:α→Bool}{y0 y1:ρ⊕υ}:∀{a:List α} {L:Nat→Option (ρ⊕υ)},(∀(i:Nat) x,a[i]?=some x→L i=bif q x then some y0 else L (i+1))→L a.length=some y1→L 0=some (if a.any q then y0 else y1)
 | [],L,_,he=>by simpa using he
 | x::a,L,hL,he=>by
  rw[hL 0 x rfl,tU (a:=a) (L:=fun i=>L (i+1)) (y0:=y0) (y1:=y1) (fun i z hz=>hL (i+1) z (by simpa using hz)) (by simpa using he),List.any_cons]
  cases q x<;>rfl
def pz (c:Condition):Bool:=
 if c.Op=1 then decide (c.Parts.length=0)&&(decide (c.Name=[])&&decide (c.Day=0))
 else if c.Op=2 then decide (c.Parts.length=0)&&(fN c.Name&&decide (c.Day=0))
 else if c.Op=3 then decide (c.Parts.length=0)&&(decide (c.Name=[])&&eo c.Day 0 36524)
 else if c.Op=4 then decide (c.Parts.length=1)&&(decide (c.Name=[])&&decide (c.Day=0))
 else if c.Op=5∨c.Op=6 then decide (c.Parts.length=2)&&(decide (c.Name=[])&&decide (c.Day=0))
 else false
mutual
def et:Condition→Bool
 | ⟨a0,a1,a2,a3⟩=>pz ⟨a0,a1,a2,a3⟩&&xe a3
def xe:List Condition→Bool
 | []=>true
 | x::xs=>et x&&xe xs
end
theorem yy:∀a,xe a=a.all et
 | []=>rfl
 | x::xs=>by simp[xe,yy xs]
theorem qT (c:Condition):et c=(pz c&&c.Parts.all et):=by cases c;simp only[et,yy]
theorem xh {α:Type}{a:List α}{n:Nat}:(len a==(n:Int))=decide (a.length=n):=by
 rw[tf]
 by_cases h:a.length=n
 ·rw[decide_eq_true h,decide_eq_true];simp only[len];omega
 ·rw[decide_eq_false h,decide_eq_false];simp only[len];omega
theorem Tk (c:Condition)(hn:c.Name.length≤1048576):Av c=some (pz c):=by
 have l0:(len c.Parts==0)=decide (c.Parts.length=0):=xh (n:=0)
 have l1:(len c.Parts==1)=decide (c.Parts.length=1):=xh (n:=1)
 have l2:(len c.Parts==2)=decide (c.Parts.length=2):=xh (n:=2)
 unfold Av pz
 simp only[gm,mO _ hn,Option.bind_some,qc,ls,l0,l1,l2,xo,tf,Bf]
 by_cases o1:c.Op=1
 ·simp only[o1,decide_true,cond_true,if_true]
 by_cases o2:c.Op=2
 ·rw[decide_eq_false o1,decide_eq_true o2,cond_false,cond_true,if_neg o1,if_pos o2]
  cases decide (c.Parts.length=0)<;>rfl
 by_cases o3:c.Op=3
 ·rw[decide_eq_false o1,decide_eq_false o2,decide_eq_true o3,cond_false,cond_false,cond_true,if_neg o1,if_neg o2,if_pos o3]
  cases decide (c.Parts.length=0)<;>cases decide (c.Name=[])<;>rfl
 by_cases o4:c.Op=4
 ·rw[decide_eq_false o1,decide_eq_false o2,decide_eq_false o3,decide_eq_true o4,if_neg o1,if_neg o2,if_neg o3,if_pos o4]
  rfl
 rw[decide_eq_false o1,decide_eq_false o2,decide_eq_false o3,decide_eq_false o4,if_neg o1,if_neg o2,if_neg o3,if_neg o4]
 by_cases o5:c.Op=5
 ·simp only[o5,decide_true,cond_true,cond_false,true_or,if_true]
 ·by_cases o6:c.Op=6
  ·rw[if_pos (.inr o6),decide_eq_false o5,decide_eq_true o6];rfl
  ·rw[if_neg (by omega),decide_eq_false o5,decide_eq_false o6];rfl
theorem OI (c:Condition):cb c→Ge c=some (et c):=by
 refine fz (P:=fun c=>cb c→Ge c=some (et c)) ?_ c
 intro c ih hc
 rw[gt] at hc
 rw[Xh]
 unfold sn
 rw[Tk c hc.2.1,Option.bind_some,qT]
 cases pz c with
 | false=>rfl
 | true=>
  have hl:c.Parts.length≤1048576:=hc.2.2.2.1.1
  simp only[Bool.not_true,cond_false,Bool.true_and]
  rw[GI (L:=pT (aN qe) c) (a:=c.Parts) (f:=fun e=>Ge e) (p:=et) (fun x hx=>ih x hx (hc.2.2.2.1.2 x hx)) (fun x=>by rw[NF,ku]<;>rfl) (by omega)]
  cases c.Parts.all et<;>rfl
theorem xj (a:List Condition)(i:Nat)(h:i<a.length):aR (a.take (i+1))=aR (a.take i)+bE a[i]:=by
 have app:∀(x y:List Condition),aR (x++y)=aR x+aR y:=by
  intro x y
  induction x with
  | nil=>simp[aR]
  | cons z x ih=>simp only[List.cons_append,aR,ih];omega
 rw[List.take_add_one,List.getElem?_eq_getElem h,app]
 simp[aR]
theorem pE (a:List Condition)(i:Nat):aR (a.take i)≤aR a:=by
 have app:∀(x y:List Condition),aR (x++y)=aR x+aR y:=by
  intro x y
  induction x with
  | nil=>simp[aR]
  | cons z x ih=>simp only[List.cons_append,aR,ih];omega
 have:=app (a.take i) (a.drop i)
 rw[List.take_append_drop] at this
 omega
theorem Tn (c:Condition):bE c≤2000000→JO c=some ((bE c:Nat):Int):=by
 refine fz (P:=fun c=>bE c≤2000000→JO c=some ((bE c:Nat):Int)) ?_ c
 intro c ih hc
 have hc':=fX c
 have hcs:=ia c.Parts
 rw[Xk]
 unfold sA
 obtain⟨y,h1,h2⟩:=nm (L:=fun i (s:Int)=>kZ (aN kz) c (s,(i:Int))) c.Parts.length (fun i s=>s=((1+aR (c.Parts.take i):Nat):Int)) (fun y=>y=.inr ((bE c:Nat):Int)) (s:=1)
  (by
   intro i s hi hj
   have hx:=List.getElem?_eq_getElem hi
   have h3:=xj c.Parts i hi
   have h4:=pE c.Parts (i+1)
   refine .inl ⟨((1+aR (c.Parts.take (i+1)):Nat):Int),rfl,?_⟩
   show kZ (aN kz) c (s,(i:Int))=_
   rw[D4,jl]
   simp only[ch,decide_eq_true hi,cond_true,cu,hx,Option.bind_some]
   rw[show aN kz c.Parts[i]=some ((bE c.Parts[i]:Nat):Int) from ih _ (List.getElem_mem hi) (by omega),Option.bind_some,dD (by omega),hj,jP (by omega) (by omega)]
   congr 2
   omega)
  (by
   intro s hj
   refine⟨_,rfl,?_⟩
   rw[List.take_length] at hj
   show kZ (aN kz) c (s,(c.Parts.length:Int))=_
   rw[D4,jl]
   simp only[ch,decide_eq_false (Nat.lt_irrefl _),cond_false]
   rw[hj,hc']) (by simp[aR])
 rw[show kZ (aN kz) c (1,0)=some y from h2,h1]
 rfl
def ox (c:Condition):Bool:=et c&&decide (bE c≤15)
theorem aci {c:Condition}(h:cb c):bE c≤1048577:=by
 rw[gt] at h
 rw[fX]
 omega
theorem Ti (c:Condition)(h:cb c):Az c=some (ox c):=by
 unfold Az ox
 rw[OI c h,Option.bind_some]
 cases et c with
 | false=>rfl
 | true=>
  have:=aci h
  simp only[cond_true,Bool.true_and]
  rw[Tn c (by omega),Option.bind_some,em]
  congr 1
  by_cases h:bE c≤15
  ·rw[decide_eq_true h,decide_eq_true (by omega)]
  ·rw[decide_eq_false h,decide_eq_false (by omega)]
def Lp (op:Int):Nat:=if op=4 then 1 else if op=5∨op=6 then 2 else 0
def Bq (c:Condition):Bool:=eo c.Op 1 6&&decide (c.Parts.length=Lp c.Op)
def FB (c:Condition):Bool:=((c.Op==2) == !(c.Name==([]:aa)))&&((if c.Op=2 then fN c.Name else true)&&((if c.Op=3 then true else decide (c.Day=0))&&eo c.Day 0 36524))
theorem mJ {x a b:Int}:eo x a b=true↔a≤x∧x≤b:=by simp[eo]
theorem SQ (c:Condition):((ij c.Op 1 6).bind fun r20=>b7 (ρ:=Int) (bif (!r20) then (some (.inr true)) else ((aP [(-1),0,0,0,1,2,2] c.Op).bind fun e22=>some (.inr ((len c.Parts) != e22)))) fun u21:Bool=>(some (.inr u21):Option (Int⊕Bool)))=some (.inr (!Bq c)):=by
 rw[jY,Option.bind_some]
 unfold Bq
 cases h:eo c.Op 1 6 with
 | false=>rfl
 | true=>
  rw[mJ] at h
  have ho:c.Op=1∨c.Op=2∨c.Op=3∨c.Op=4∨c.Op=5∨c.Op=6:=by omega
  have key:aP [(-1),0,0,0,1,2,2] c.Op=some ((Lp c.Op:Nat):Int):=by rcases ho with h | h | h | h | h | h<;>rw[h]<;>rfl
  simp only[Bool.not_true,cond_false,key,Option.bind_some,gx,Bool.true_and,bne,xh]
theorem SR (c:Condition)(hn:c.Name.length≤1048576):(bif (!((c.Op==2)==(!(c.Name==([]:aa))))) then (some (.inr true)) else (b7 (ρ:=Int) (bif (c.Op==2) then ((se c.Name).bind fun r10=>b7 (ρ:=Int) (bif (!r10) then (some (.inr true)) else (b7 (ρ:=Int) (bif (c.Op != 3) then (b7 (ρ:=Int) (bif (c.Day != 0) then (some (.inr true)) else ((nF c.Day).bind fun r14=>some (.inr (!r14)))) fun u13:Bool=>some (.inr u13)) else ((nF c.Day).bind fun r15=>some (.inr (!r15)))) fun u12:Bool=>some (.inr u12))) fun u11:Bool=>some (.inr u11)) else (b7 (ρ:=Int) (bif (c.Op != 3) then (b7 (ρ:=Int) (bif (c.Day != 0) then (some (.inr true)) else ((nF c.Day).bind fun r18=>some (.inr (!r18)))) fun u17:Bool=>some (.inr u17)) else ((nF c.Day).bind fun r19=>some (.inr (!r19)))) fun u16:Bool=>some (.inr u16))) fun u9:Bool=>(some (.inr u9):Option (Int⊕Bool))))=some (.inr (!FB c)):=by
 unfold FB
 simp only[mI _ hn,nF,jY,Option.bind_some,Ye]
 cases ((c.Op==2) == !(c.Name==([]:aa))) with
 | false=>rfl
 | true=>
  simp only[Bool.not_true,cond_false,Bool.true_and]
  by_cases o2:c.Op=2
  ·simp only[o2,if_true,show ((2:Int)==2)=true from rfl,cond_true,show ¬(2:Int)=3 by omega,if_false,decide_false,Bool.not_false]
   cases fN c.Name<;>by_cases hd:c.Day=0<;>simp[hd]
  ·have:(c.Op==2)=false:=beq_eq_false_iff_ne.2 o2
   rw[this,cond_false,if_neg o2]
   by_cases o3:c.Op=3
   ·simp[o3]
   ·by_cases hd:c.Day=0<;>simp[o3,hd]
theorem ue (c:Condition):pz c=(Bq c&&FB c):=by
 have name0:c.Name=[]→fN c.Name=false:=fun h=>by rw[h];rfl
 have d0:c.Day=0→eo c.Day 0 36524=true:=fun h=>by rw[h];rfl
 have in1:eo c.Op 1 6=decide (1≤c.Op∧c.Op≤6):=by rw[Bool.eq_iff_iff,mJ,decide_eq_true_iff]
 unfold pz Bq FB
 rw[in1,show Lp c.Op=if c.Op=4 then 1 else if c.Op=5∨c.Op=6 then 2 else 0 from rfl]
 by_cases hn:c.Name=[]
 ·by_cases hd:c.Day=0
  ·by_cases o1:c.Op=1
   ·simp[o1,hn,hd,eo]
   by_cases o2:c.Op=2
   ·simp[o2,hn,hd,fN]
   by_cases o3:c.Op=3
   ·simp[o3,hn,hd,eo]
   by_cases o4:c.Op=4
   ·simp[o4,hn,hd,eo]
   by_cases o5:c.Op=5
   ·simp[o5,hn,hd,eo]
   by_cases o6:c.Op=6
   ·simp[o6,hn,hd,eo]
   have:¬(1≤c.Op∧c.Op≤6):=by omega
   simp[o1,o2,o3,o4,o5,o6,decide_eq_false this]
  ·by_cases o3:c.Op=3
   ·simp[o3,hn]
   ·by_cases o2:c.Op=2<;>simp[o2,o3,hd]
 ·have hb:(c.Name==([]:aa))=false:=beq_eq_false_iff_ne.2 hn
  by_cases o2:c.Op=2
  ·by_cases hd:c.Day=0<;>simp[o2,hn,hd,eo,hb]
  ·simp[o2,hn,hb]
theorem Oj (c:Condition):cb c→∀so:Nat,so≤15→Sh c (so:Int)=some (if et c=true∧so+bE c≤15 then ((so+bE c:Nat):Int) else -1):=by
 refine fz (P:=fun c=>cb c→∀so:Nat,so≤15→Sh c (so:Int)=some (if et c=true∧so+bE c≤15 then ((so+bE c:Nat):Int) else -1)) ?_ c
 intro c ih hc so hso
 rw[gt] at hc
 have hnc:=fX c
 rw[aaL]
 unfold wX
 rw[SQ,SR c hc.2.1,dD (by omega),qT,ue]
 by_cases h15:so+1≤15
 ·rw[decide_eq_false (by omega),cond_false]
  cases Bq c with
  | false=>rfl
  | true=>
  cases FB c with
  | false=>rfl
  | true=>
   simp only[Bool.not_true,em,cond_false,Bool.true_and]
   obtain⟨y,h1,h2⟩:=nm (L:=fun i (s:Int)=>lC (aN lI) c (so:Int) (s,(i:Int))) c.Parts.length
    (fun i s=>s=((so+1+aR (c.Parts.take i):Nat):Int)∧so+1+aR (c.Parts.take i)≤15∧(c.Parts.take i).all et=true)
    (fun y=>y=if c.Parts.all et=true∧so+bE c≤15 then .inr ((so+bE c:Nat):Int) else .inl (-1)) (s:=((so+1:Nat):Int))
    (by
     rintro i s hi ⟨hj,hj2,hj3⟩
     have hx:=List.getElem?_eq_getElem hi
     have h3:=xj c.Parts i hi
     have h4:=pE c.Parts (i+1)
     have h5:=ih _ (List.getElem_mem hi) (hc.2.2.2.1.2 _ (List.getElem_mem hi)) (so+1+aR (c.Parts.take i)) hj2
     show (∃s',_∧lC (aN lI) c (so:Int) (s,(i:Int))=_)∨∃y,_∧lC (aN lI) c (so:Int) (s,(i:Int))=_
     rw[Hg,kG]
     simp only[ch,decide_eq_true hi,cond_true,cu,hx,Option.bind_some,hj]
     rw[show aN lI (c.Parts[i],((so+1+aR (c.Parts.take i):Nat):Int))=_ from h5,Option.bind_some,dD (by have:=hc.2.2.2.1.1;omega)]
     by_cases hq:et c.Parts[i]=true∧so+1+aR (c.Parts.take i)+bE c.Parts[i]≤15
     ·rw[if_pos hq,decide_eq_false (by omega),cond_false]
      refine .inl ⟨_,⟨?_,?_,?_⟩,rfl⟩
      ·congr 1;omega
      ·omega
      ·rw[List.take_add_one,hx,List.all_append,hj3];simp[hq.1]
     ·rw[if_neg hq,decide_eq_true (by omega),cond_true]
      refine .inr ⟨_,?_,rfl⟩
      rw[if_neg]
      rintro⟨h6,h7⟩
      rw[List.all_eq_true] at h6
      exact hq ⟨h6 _ (List.getElem_mem hi),by omega⟩)
    (by
     rintro s ⟨hj,hj2,hj3⟩
     rw[List.take_length] at *
     show ∃y,_∧lC (aN lI) c (so:Int) (s,(c.Parts.length:Int))=_
     rw[Hg,kG]
     simp only[ch,decide_eq_false (Nat.lt_irrefl _),cond_false]
     refine⟨_,?_,rfl⟩
     rw[if_pos ⟨hj3,by omega⟩,hj]
     congr 2;omega) ⟨by simp[aR],by simp[aR];omega,by simp⟩
   rw[show lC (aN lI) c (so:Int) (((so+1:Nat):Int),0)=some y from h2,h1]
   by_cases hq:c.Parts.all et=true∧so+bE c≤15
   ·rw[if_pos hq,if_pos hq];rfl
   ·rw[if_neg hq,if_neg hq];rfl
 ·rw[decide_eq_true (by omega),cond_true,em,cond_true,if_neg (by omega)]
theorem SN (c:Condition)(h:cb c):Jb c=some (ox c):=by
 unfold Jb ox
 rw[show (0:Int)=((0:Nat):Int) from rfl,Oj c h 0 (by omega),Option.bind_some]
 have:=fX c
 congr 1
 cases et c with
 | false=>rfl
 | true=>
  by_cases h:bE c≤15
  ·rw[if_pos ⟨rfl,by omega⟩,decide_eq_true (by omega),decide_eq_true h];rfl
  ·rw[if_neg (by omega),decide_eq_false h];rfl
mutual
def jM:Condition→List aa
 | ⟨op,name,_,parts⟩=>(if op=2 then [name] else [])++eL parts
def eL:List Condition→List aa
 | []=>[]
 | x::xs=>jM x++eL xs
end
theorem HC (c:Condition):jM c=(if c.Op=2 then [c.Name] else [])++eL c.Parts:=by cases c;simp only[jM]
theorem yC:∀(a b:List Condition),eL (a++b)=eL a++eL b
 | [],b=>rfl
 | x::a,b=>by simp only[List.cons_append,eL,yC a b,List.append_assoc]
theorem wt (a:List Condition)(i:Nat)(h:i<a.length):eL (a.take (i+1))=eL (a.take i)++jM a[i]:=by
 rw[List.take_add_one,List.getElem?_eq_getElem h,yC]
 simp[eL]
mutual
theorem Fs:∀c,(jM c).length≤bE c
 | ⟨op,name,day,parts⟩=>by
  have:=rz parts
  simp only[jM,bE,List.length_append]
  split<;>simp<;>omega
theorem rz:∀a,(eL a).length≤aR a
 | []=>by simp[eL]
 | x::a=>by
  have h1:=Fs x
  have h2:=rz a
  simp only[eL,aR,List.length_append]
  omega
end
theorem Om (c:Condition):∀l:List aa,l.length+bE c≤1000000→Se c l=some (l++jM c):=by
 refine fz (P:=fun c=>∀l:List aa,l.length+bE c≤1000000→Se c l=some (l++jM c)) ?_ c
 intro c ih l hl
 have hnc:=fX c
 have hpl:=ia c.Parts
 rw[aaK]
 unfold wW
 have h0:(bif (c.Op==2) then ((iB 16 l [c.Name]).bind fun a8=>some (.inr a8)) else (some (.inr l)):Option (List aa⊕List aa))=some (.inr (l++if c.Op=2 then [c.Name] else [])):=by
  rw[tf]
  by_cases h:c.Op=2
  ·rw[decide_eq_true h,cond_true,Bd (by omega) (by omega),if_pos h];rfl
  ·rw[decide_eq_false h,cond_false,if_neg h,List.append_nil]
 rw[h0,em]
 have hlen:(l++if c.Op=2 then [c.Name] else []).length≤l.length+1:=by
  rw[List.length_append];split<;>simp
 rw[HC,←List.append_assoc]
 generalize (l++if c.Op=2 then [c.Name] else [])=l1 at hlen ⊢
 obtain⟨y,h1,h2⟩:=nm (L:=fun i (s:List aa)=>mV (aN mU) c l ((i:Int),s)) c.Parts.length (fun i s=>s=l1++eL (c.Parts.take i)) (fun y=>y=.inr (l1++eL c.Parts)) (s:=l1)
  (by
   intro i s hi hj
   have hx:=List.getElem?_eq_getElem hi
   have h3:=xj c.Parts i hi
   have h4:=pE c.Parts (i+1)
   have h5:=rz (c.Parts.take i)
   refine .inl ⟨l1++eL (c.Parts.take (i+1)),rfl,?_⟩
   show mV (aN mU) c l ((i:Int),s)=_
   rw[He,kF]
   simp only[ch,decide_eq_true hi,cond_true,cu,hx,Option.bind_some]
   rw[show aN mU (c.Parts[i],s)=_ from ih _ (List.getElem_mem hi) s (by rw[hj,List.length_append];omega),Option.bind_some,dD (by omega),hj,wt _ _ hi,List.append_assoc])
  (by
   intro s hj
   refine⟨_,rfl,?_⟩
   rw[List.take_length] at hj
   show mV (aN mU) c l ((c.Parts.length:Int),s)=_
   rw[He,kF]
   simp only[ch,decide_eq_false (Nat.lt_irrefl _),cond_false]
   rw[hj]) (by simp[eL])
 rw[show mV (aN mU) c l (0,l1)=some y from h2,h1]
 rfl
theorem Ob {c:Condition}(h:pz c=true)(ho:c.Op=2∨c.Op=3):c.Parts=[]:=by
 rw[ue,Bq,Lp] at h
 rw[Bool.and_eq_true,Bool.and_eq_true,decide_eq_true_iff] at h
 have:=h.1.2
 rw[if_neg (by omega),if_neg (by omega)] at this
 exact List.length_eq_zero_iff.1 this
theorem OJ (c:Condition):et c=true→∀l:List aa,l.length+bE c≤1000000→l.Pairwise StrL.Lt→∃r,JL l c=some r∧r.Pairwise StrL.Lt∧(∀x,x∈r↔x∈l∨x∈jM c)∧r.length≤l.length+bE c:=by
 refine fz (P:=fun c=>et c=true→∀l:List aa,l.length+bE c≤1000000→l.Pairwise StrL.Lt→∃r,JL l c=some r∧r.Pairwise StrL.Lt∧(∀x,x∈r↔x∈l∨x∈jM c)∧r.length≤l.length+bE c) ?_ c
 intro c ih hf l hl hs
 have hnc:=fX c
 have hpl:=ia c.Parts
 rw[qT,Bool.and_eq_true,List.all_eq_true] at hf
 rw[Xj]
 unfold su
 rw[tf,HC]
 by_cases ho:c.Op=2
 ·obtain⟨r,e,r1,r2,r3⟩:=StrL.put_val l c.Name (by omega) hs
  rw[decide_eq_true ho,cond_true,e,if_pos ho,Ob hf.1 (.inl ho)]
  exact⟨r,rfl,r1,fun x=>by rw[r2];simp[eL],by omega⟩
 rw[decide_eq_false ho,cond_false,if_neg ho,List.nil_append]
 obtain⟨y,h1,h2⟩:=nm (L:=fun i (s:List aa)=>kY (aN kx) l c ((i:Int),s)) c.Parts.length
  (fun i s=>s.Pairwise StrL.Lt∧(∀x,x∈s↔x∈l∨x∈eL (c.Parts.take i))∧s.length≤l.length+aR (c.Parts.take i))
  (fun y=>∃r,y=.inr r∧r.Pairwise StrL.Lt∧(∀x,x∈r↔x∈l∨x∈eL c.Parts)∧r.length≤l.length+bE c) (s:=l)
  (by
   rintro i s hi ⟨j1,j2,j3⟩
   have hx:=List.getElem?_eq_getElem hi
   have h3:=xj c.Parts i hi
   have h4:=pE c.Parts (i+1)
   obtain⟨r,e,r1,r2,r3⟩:=ih _ (List.getElem_mem hi) (hf.2 _ (List.getElem_mem hi)) s (by omega) j1
   refine .inl ⟨r,⟨r1,fun x=>?_,by omega⟩,?_⟩
   ·rw[r2,j2,wt _ _ hi,List.mem_append,or_assoc]
   show kY (aN kx) l c ((i:Int),s)=_
   rw[DY,jk]
   simp only[ch,decide_eq_true hi,cond_true,cu,hx,Option.bind_some]
   rw[show aN kx (s,c.Parts[i])=_ from e,Option.bind_some,dD (by omega)])
  (by
   rintro s ⟨j1,j2,j3⟩
   rw[List.take_length] at *
   refine⟨.inr s,⟨s,rfl,j1,j2,by omega⟩,?_⟩
   show kY (aN kx) l c ((c.Parts.length:Int),s)=_
   rw[DY,jk]
   simp only[ch,decide_eq_false (Nat.lt_irrefl _),cond_false]) ⟨hs,fun x=>by simp[eL],by simp[aR]⟩
 obtain⟨r,rfl,hr⟩:=h1
 rw[show kY (aN kx) l c (0,l)=some (.inr r) from h2]
 exact⟨r,rfl,hr⟩
theorem we (l:List aa)(s:aa)(hl:l.length≤1048576):mR l s=some (l.contains s):=by
 unfold mR vu
 rw[i7 (L:=nS l s) (a:=l) (p:=fun e=>some (s==e)) (q:=fun e=>s==e) (fun _ _=>rfl) (fun x=>by rw[tE,ji]<;>rfl) (by omega)]
 cases h:l.findIdx? (fun e=>s==e) with
 | none=>
  have:l.contains s=false:=by
   rw[List.findIdx?_eq_none_iff] at h
   rw[Bool.eq_false_iff]
   intro hc
   rw[List.contains_iff_exists_mem_beq] at hc
   obtain⟨w,hw,he⟩:=hc
   rw[h w hw] at he
   cases he
  rw[this]
  rfl
 | some i=>
  have:l.contains s=true:=by
   rw[List.findIdx?_eq_some_iff_getElem] at h
   obtain⟨hi,he,_⟩:=h
   rw[List.contains_iff_exists_mem_beq]
   exact⟨_,List.getElem_mem hi,he⟩
  rw[this]
  simp
theorem VF (a b:aa):(a==b)=(b==a):=by
 rw[xo,xo]
 by_cases h:a=b
 ·simp[h]
 ·simp[h,Ne.symm h]
theorem MV (l:List aa)(s:aa)(hl:l.length≤1048576):pf l s=some (l.contains s):=by
 unfold pf
 rw[sU (L:=pU l s) (a:=l) (p:=fun e=>some (e==s)) (q:=fun e=>e==s) (r:=true) (fun _ _=>rfl) (fun x=>by rw[DT,kv]<;>rfl) (by omega)]
 have:(l.any fun e=>e==s)=l.contains s:=by
  rw[List.contains_eq_any_beq]
  congr 1
  funext e
  exact VF e s
 rw[this]
 cases l.contains s<;>rfl
def VD (l:List aa)(k:Nat):Bool:=match l[k]? with
 | some e=>!fN e||(l.take k).contains e
 | none=>false
def wB (l:List aa):Nat→Nat→Bool
 | 0,_=>true
 | n+1,k=>!VD l k&&wB l n (k+1)
theorem Bz {α:Type}{l:List α}{k:Nat}(h:k≤l.length):pn l 0 (k:Int)=some (l.take k):=by
 unfold pn
 rw[if_pos (by omega)]
 simp
theorem yL (l:List aa)(cs:List Clause)(hl:ii mN l):∀(n k:Nat),k+n=l.length→sF ⟨l,cs⟩ (k:Int)=some (bif wB l n k then .inr () else .inl false)
 | 0,k,hk=>by
  have h1:=hl.1
  rw[El,kC]
  simp only[ch]
  rw[decide_eq_false (by omega)]
  rfl
 | n+1,k,hk=>by
  have h1:=hl.1
  obtain⟨e,he⟩:∃e,l[k]?=some e:=⟨_,List.getElem?_eq_getElem (by omega)⟩
  rw[El,kC]
  simp only[ch]
  rw[decide_eq_true (by omega)]
  simp only[cond_true,cu,he,Option.bind_some,mO e (hl.2 e (List.mem_of_getElem? he)),Bz (show k≤l.length by omega),MV _ e (show (l.take k).length≤1048576 by rw[List.length_take];omega)]
  rw[dD (by omega),yL l cs hl n (k+1) (by omega)]
  simp only[wB,VD,he]
  cases fN e<;>cases (l.take k).contains e<;>rfl
theorem yB (l:List aa)(hl:ii mN l):∀(n k:Nat),k+n=l.length→vV l (k:Int)=some (bif wB l n k then .inr () else .inl false)
 | 0,k,hk=>by
  have h1:=hl.1
  rw[Hf,lU]
  simp only[ch]
  rw[decide_eq_false (by omega)]
  rfl
 | n+1,k,hk=>by
  have h1:=hl.1
  obtain⟨e,he⟩:∃e,l[k]?=some e:=⟨_,List.getElem?_eq_getElem (by omega)⟩
  rw[Hf,lU]
  simp only[ch]
  rw[decide_eq_true (by omega)]
  simp only[cond_true,cu,he,Option.bind_some,mI e (hl.2 e (List.mem_of_getElem? he)),Bz (show k≤l.length by omega),we _ e (show (l.take k).length≤1048576 by rw[List.length_take];omega)]
  rw[dD (by omega),yB l hl n (k+1) (by omega)]
  simp only[wB,VD,he]
  cases fN e<;>cases (l.take k).contains e<;>rfl
def pJ (l:List aa):Bool:=wB l l.length 0&&eo (len l) 2 4
theorem Wm (l:List aa)(cs:List Clause)(hl:ii mN l):vP ⟨l,cs⟩=some (pJ l):=by
 unfold vP pJ
 have:=yL l cs hl l.length 0 (by omega)
 rw[show (0:Int)=((0:Nat):Int) by rfl,this]
 simp only[ls]
 cases wB l l.length 0<;>rfl
theorem VY (l:List aa)(hl:ii mN l):J1 l=some (pJ l):=by
 unfold J1 pJ
 have:=yB l hl l.length 0 (by omega)
 rw[show (0:Int)=((0:Nat):Int) by rfl,this]
 simp only[jY]
 cases wB l l.length 0<;>rfl
def jx (cs:List Clause)(id:aa):Int:=match cs.findIdx? (fun e=>e.Id==id) with
 | some i=>(i:Int)
 | none=>-1
theorem HP (c:Contract)(id:aa)(hl:c.Clauses.length≤1048576):tI c id=some (jx c.Clauses id):=by
 unfold tI jx
 rw[i7 (L:=sD c id) (a:=c.Clauses) (p:=fun e=>some (e.Id==id)) (q:=fun e=>e.Id==id) (fun _ _=>rfl) (fun x=>by rw[NI,mu]<;>rfl) (by omega)]
 cases c.Clauses.findIdx? (fun e=>e.Id==id)<;>rfl
theorem Hx (c:Contract)(id:aa)(hl:c.Clauses.length≤1048576):EU c id=some (jx c.Clauses id):=by
 unfold EU F8 jx
 rw[i7 (L:=sb c.Clauses id) (a:=c.Clauses) (p:=fun e=>some (e.Id==id)) (q:=fun e=>e.Id==id) (fun _ _=>rfl) (fun x=>by rw[Ny,mh]<;>rfl) (by omega)]
 cases c.Clauses.findIdx? (fun e=>e.Id==id)<;>rfl
theorem MO (cs:List Clause)(id:aa):jx cs id=-1∨∃j:Nat,jx cs id=(j:Int)∧j<cs.length:=by
 unfold jx
 cases h:cs.findIdx? (fun e=>e.Id==id) with
 | none=>exact .inl rfl
 | some j=>
  rw[List.findIdx?_eq_some_iff_getElem] at h
  exact .inr ⟨j,rfl,h.1⟩
def Lc (cs:List Clause)(i:Int)(e:Clause):Bool:=match jx cs e.Repair with
 | .ofNat k=>match cs[k]? with
  | some e'=>((k:Int) != i)&&((e'.Kind==1)&&(e.Kind != 3))
  | none=>false
 | .negSucc _=>false
def jU (c:Contract)(i:Int)(e:Clause):Bool:=
 fN e.Id&&(fN e.Action&&(eo e.Kind 1 4&&(eo e.Party 0 (az (len c.Parties - 1))&&(eo e.Other 0 (az (len c.Parties - 1))&&(!(e.Party==e.Other)&&(ox e.When&&(eo e.Amount 0 1000000&&(eo e.Within 0 400&&(!(bif e.Kind != 1 then (bif e.Amount != 0 then true else e.Within != 0) else false) &&
  (bif e.Repair==[] then true else Lc c.Clauses i e))))))))))
theorem Wn (c:Contract)(i:Int)(e:Clause)(hl:c.Clauses.length≤1048576):((tI c e.Repair).bind fun r8=>bd (ρ:=Bool) (bif (decide (r8≥0)) then (b7 (ρ:=Bool) (bif (r8 != i) then ((aP c.Clauses r8).bind fun e11=>cU (bif (e11.Kind==1) then ((e.Kind != 3)) else (false)) fun u12:Bool=>some (.inr u12)) else (some (.inr false))) fun u10:Bool=>some (.inr u10)) else (some (.inr false))) fun u9:Bool=>some u9)=some (Lc c.Clauses i e):=by
 rw[HP c _ hl,Option.bind_some]
 unfold Lc
 rcases MO c.Clauses e.Repair with h | ⟨j,h,hj⟩
 ·rw[h];rfl
 ·rw[h,decide_eq_true (by omega),cond_true,cu,List.getElem?_eq_getElem hj,Option.bind_some]
  show _=some (match c.Clauses[j]? with | some e'=>_ | none=>false)
  rw[List.getElem?_eq_getElem hj]
  show _=some (((j:Int) != i)&&((c.Clauses[j].Kind==1)&&(e.Kind != 3)))
  cases ((j:Int) != i)<;>cases (c.Clauses[j].Kind==1)<;>rfl
theorem VZ (c:Contract)(i:Int)(e:Clause)(hl:c.Clauses.length≤1048576):((EU c e.Repair).bind fun r10=>bd (ρ:=Bool) (bif (e.Kind != 3) then (b7 (ρ:=Bool) (bif (decide (r10≥0)) then (b7 (ρ:=Bool) (bif (r10 != i) then ((aP c.Clauses r10).bind fun e14=>some (.inr (e14.Kind==1))) else (some (.inr false))) fun u13:Bool=>some (.inr u13)) else (some (.inr false))) fun u12:Bool=>some (.inr u12)) else (some (.inr false))) fun u11:Bool=>some u11)=some (Lc c.Clauses i e):=by
 rw[Hx c _ hl,Option.bind_some]
 unfold Lc
 rcases MO c.Clauses e.Repair with h | ⟨j,h,hj⟩
 ·rw[h];cases (e.Kind != 3)<;>rfl
 ·rw[h,decide_eq_true (by omega),cond_true,cu,List.getElem?_eq_getElem hj,Option.bind_some]
  show _=some (match c.Clauses[j]? with | some e'=>_ | none=>false)
  rw[List.getElem?_eq_getElem hj]
  show _=some (((j:Int) != i)&&((c.Clauses[j].Kind==1)&&(e.Kind != 3)))
  cases ((j:Int) != i)<;>cases (c.Clauses[j].Kind==1)<;>cases (e.Kind != 3)<;>rfl
theorem Mr (c:Contract)(i:Int)(e:Clause)(he:aP c.Clauses i=some e)(hs:gJ e)(hl:c.Clauses.length≤1048576):AG c i=some (jU c i e):=by
 unfold AG jU
 rw[he,Option.bind_some,Wn c i e hl]
 simp only[mO _ hs.1,mO _ hs.2.2.2.1,ls,Ti _ hs.2.2.2.2.2.2.1,Option.bind_some,gm]
 cases fN e.Id with | false=>rfl | true=>?_
 cases fN e.Action with | false=>rfl | true=>?_
 cases eo e.Kind 1 4 with | false=>rfl | true=>?_
 cases eo e.Party 0 (az (len c.Parties - 1)) with | false=>rfl | true=>?_
 cases eo e.Other 0 (az (len c.Parties - 1)) with | false=>rfl | true=>?_
 cases (e.Party==e.Other) with | true=>rfl | false=>?_
 cases ox e.When with | false=>rfl | true=>?_
 cases eo e.Amount 0 1000000 with | false=>rfl | true=>?_
 cases eo e.Within 0 400 with | false=>rfl | true=>?_
 cases (bif e.Kind != 1 then (bif e.Amount != 0 then true else e.Within != 0) else false) with | true=>rfl | false=>?_
 cases (e.Repair==([]:aa))<;>rfl
theorem Mk (c:Contract)(i:Int)(e:Clause)(he:aP c.Clauses i=some e)(hs:gJ e)(hl:c.Clauses.length≤1048576):J5 c i=some ((jx c.Clauses e.Id==i)&&jU c i e):=by
 unfold J5 jU
 rw[he,Option.bind_some,VZ c i e hl]
 simp only[mI _ hs.1,mI _ hs.2.2.2.1,jY,SN _ hs.2.2.2.2.2.2.1,Option.bind_some,gm,Hx c _ hl,bne]
 cases fN e.Id with | false=>cases (jx c.Clauses e.Id==i)<;>rfl | true=>?_
 cases (jx c.Clauses e.Id==i) with | false=>rfl | true=>?_
 cases fN e.Action with | false=>rfl | true=>?_
 cases eo e.Kind 1 4 with | false=>rfl | true=>?_
 cases eo e.Party 0 (az (len c.Parties - 1)) with | false=>rfl | true=>?_
 cases eo e.Other 0 (az (len c.Parties - 1)) with | false=>rfl | true=>?_
 cases (e.Party==e.Other) with | true=>rfl | false=>?_
 cases ox e.When with | false=>rfl | true=>?_
 cases eo e.Amount 0 1000000 with | false=>rfl | true=>?_
 cases eo e.Within 0 400 with | false=>rfl | true=>?_
 cases (bif !(e.Kind==1) then (bif !(e.Amount==0) then true else !(e.Within==0)) else false) with | true=>rfl | false=>?_
 cases (e.Repair==([]:aa))<;>rfl
def rD (c:Contract)(i:Nat):Bool:=match c.Clauses[i]? with
 | some e=>(jx c.Clauses e.Id==(i:Int))&&jU c (i:Int) e
 | none=>true
def iC (c:Contract):Bool:=!((List.range c.Clauses.length).any fun i=>!rD c i)
theorem qo {c:Contract}:iC c=true↔∀(i:Nat) e,c.Clauses[i]?=some e→jx c.Clauses e.Id=(i:Int)∧jU c (i:Int) e=true:=by
 unfold iC
 rw[Bool.not_eq_true',←Bool.not_eq_true,List.any_eq_true]
 constructor
 ·intro h i e he
  have hi:=(List.getElem?_eq_some_iff.1 he).1
  cases h1:rD c i with
  | false=>exact absurd ⟨i,List.mem_range.2 hi,by rw[h1];rfl⟩ h
  | true=>
   simp only[rD,he,Bool.and_eq_true,beq_iff_eq] at h1
   exact h1
 ·rintro h ⟨i,hi,h2⟩
  rw[List.mem_range] at hi
  have h1:=h i _ (List.getElem?_eq_getElem hi)
  simp only[rD,List.getElem?_eq_getElem hi,h1.1,h1.2,beq_self_eq_true,Bool.and_self,Bool.not_true] at h2
  cases h2
theorem Ll (c:Contract)(hc:eO c):la c 0=some (bif iC c then .inr () else .inl false):=by
 have hl:c.Clauses.length≤1048576:=hc.2.1
 have h:=tU (a:=List.range c.Clauses.length) (q:=fun i=>!rD c i) (y0:=(Sum.inl false:Bool⊕Unit)) (y1:=.inr ()) (L:=fun i=>la c (i:Int))
  (fun i x hx=>by
   obtain⟨hi,hx'⟩:=List.getElem?_eq_some_iff.1 hx
   rw[List.getElem_range] at hx'
   subst hx'
   rw[List.length_range] at hi
   have he:=List.getElem?_eq_getElem hi
   have hg:aP c.Clauses (i:Int)=some c.Clauses[i]:=by rw[cu,he]
   show la c (i:Int)=_
   rw[Ee,kA,ch,decide_eq_true hi,cond_true,hg,Option.bind_some,HP c _ hl,Option.bind_some,Mr c _ _ hg (hc.2.2 _ (List.getElem_mem hi)) hl,dD (by omega)]
   simp only[rD,he,bne]
   cases (jx c.Clauses c.Clauses[i].Id==(i:Int))<;>cases jU c (i:Int) c.Clauses[i]<;>rfl)
  (by
   rw[List.length_range]
   show la c (c.Clauses.length:Int)=_
   rw[Ee,kA,ch,decide_eq_false (Nat.lt_irrefl _),cond_false])
 rw[show la c 0=_ from h]
 unfold iC
 cases (List.range c.Clauses.length).any fun i=>!rD c i<;>rfl
theorem KP (c:Contract)(hc:eO c):mQ c 0=some (bif iC c then .inr () else .inl false):=by
 have hl:c.Clauses.length≤1048576:=hc.2.1
 have h:=tU (a:=List.range c.Clauses.length) (q:=fun i=>!rD c i) (y0:=(Sum.inl false:Bool⊕Unit)) (y1:=.inr ()) (L:=fun i=>mQ c (i:Int))
  (fun i x hx=>by
   obtain⟨hi,hx'⟩:=List.getElem?_eq_some_iff.1 hx
   rw[List.getElem_range] at hx'
   subst hx'
   rw[List.length_range] at hi
   have he:=List.getElem?_eq_getElem hi
   have hg:aP c.Clauses (i:Int)=some c.Clauses[i]:=by rw[cu,he]
   show mQ c (i:Int)=_
   rw[G6,lS,ch,decide_eq_true hi,cond_true,Mk c _ _ hg (hc.2.2 _ (List.getElem_mem hi)) hl,Option.bind_some,dD (by omega)]
   simp only[rD,he])
  (by
   rw[List.length_range]
   show mQ c (c.Clauses.length:Int)=_
   rw[G6,lS,ch,decide_eq_false (Nat.lt_irrefl _),cond_false])
 rw[show mQ c 0=_ from h]
 unfold iC
 cases (List.range c.Clauses.length).any fun i=>!rD c i<;>rfl
def jb (cs:List Clause):List aa:=cs.flatMap fun e=>e.Action::jM e.When
theorem wb {c:Contract}{i:Int}{e:Clause}(h:jU c i e=true):ox e.When=true:=by
 simp only[jU,Bool.and_eq_true] at h
 exact h.2.2.2.2.2.2.1
theorem rA (cs:List Clause)(i:Nat)(h:i<cs.length):jb (cs.take (i+1))=jb (cs.take i)++(cs[i].Action::jM cs[i].When):=by
 unfold jb
 rw[List.take_add_one,List.getElem?_eq_getElem h,List.flatMap_append]
 simp
theorem Bn (c:Contract)(hc:eO c)(h12:c.Clauses.length≤12)(hv:iC c=true):∃r,nT c=some r∧sN c=some r∧r.Pairwise StrL.Lt∧(∀x,x∈r↔x∈jb c.Clauses)∧r.length≤1000:=by
 have hcond:∀i (hi:i<c.Clauses.length),et c.Clauses[i].When=true∧bE c.Clauses[i].When≤15:=fun i hi=>by
  have h1:=wb (qo.1 hv i _ (List.getElem?_eq_getElem hi)).2
  unfold ox at h1
  rw[Bool.and_eq_true,decide_eq_true_iff] at h1
  exact h1
 have hs:∃r,nT c=some r∧r.Pairwise StrL.Lt∧(∀x,x∈r↔x∈jb c.Clauses)∧r.length≤16*c.Clauses.length:=by
  obtain⟨y,⟨r,rfl,hr⟩,h2⟩:=nm (L:=fun i (s:List aa)=>mw c ((i:Int),s)) c.Clauses.length
   (fun i s=>s.Pairwise StrL.Lt∧(∀x,x∈s↔x∈jb (c.Clauses.take i))∧s.length≤16*i)
   (fun y=>∃r,y=.inr r∧r.Pairwise StrL.Lt∧(∀x,x∈r↔x∈jb c.Clauses)∧r.length≤16*c.Clauses.length) (s:=[])
   (by
    rintro i s hi ⟨j1,j2,j3⟩
    have he:=List.getElem?_eq_getElem hi
    obtain⟨f1,f2⟩:=hcond i hi
    obtain⟨r1,e1,p1,m1,l1⟩:=StrL.put_val s c.Clauses[i].Action (by omega) j1
    obtain⟨r2,e2,p2,m2,l2⟩:=OJ _ f1 r1 (by omega) p1
    refine .inl ⟨r2,⟨p2,fun x=>?_,by omega⟩,?_⟩
    ·rw[m2,m1,j2,rA _ _ hi,List.mem_append,List.mem_cons,or_assoc]
    ·show mw c ((i:Int),s)=_
     rw[Eh,kB]
     simp only[ch,decide_eq_true hi,cond_true,cu,he,Option.bind_some,e1,e2]
     rw[dD (by omega)])
   (by
    rintro s ⟨j1,j2,j3⟩
    rw[List.take_length] at j2
    refine⟨.inr s,⟨s,rfl,j1,j2,j3⟩,?_⟩
    show mw c ((c.Clauses.length:Int),s)=_
    rw[Eh,kB]
    simp only[ch,decide_eq_false (Nat.lt_irrefl _),cond_false]) ⟨List.Pairwise.nil,fun x=>by simp[jb],by simp⟩
  refine⟨r,?_,hr⟩
  unfold nT
  rw[show mw c (0,[])=some (.inr r) from h2]
  rfl
 obtain⟨r,e,p,m,l⟩:=hs
 refine⟨r,e,?_,p,m,by omega⟩
 obtain⟨y,h1,h2⟩:=nm (L:=fun i (s:List aa)=>oS c ((i:Int),s)) c.Clauses.length
  (fun i s=>s=jb (c.Clauses.take i)∧s.length≤16*i) (fun y=>y=.inr (jb c.Clauses)∧(jb c.Clauses).length≤16*c.Clauses.length) (s:=[])
  (by
   rintro i s hi ⟨j1,j2⟩
   have he:=List.getElem?_eq_getElem hi
   obtain⟨f1,f2⟩:=hcond i hi
   have hlen:=Fs c.Clauses[i].When
   refine .inl ⟨jb (c.Clauses.take (i+1)),⟨rfl,?_⟩,?_⟩
   ·rw[rA _ _ hi,←j1,List.length_append,List.length_cons];omega
   ·show oS c ((i:Int),s)=_
    rw[Hh,lV]
    simp only[ch,decide_eq_true hi,cond_true,cu,he,Option.bind_some]
    rw[Bd (by omega) (by omega),Option.bind_some,Om _ _ (by rw[List.length_append,List.length_singleton];omega),Option.bind_some,dD (by omega),rA _ _ hi,←j1,List.append_assoc]
    try rfl)
  (by
   rintro s ⟨j1,j2⟩
   rw[List.take_length] at j1
   refine⟨_,⟨rfl,by rw[←j1];exact j2⟩,?_⟩
   show oS c ((c.Clauses.length:Int),s)=_
   rw[Hh,lV]
   simp only[ch,decide_eq_false (Nat.lt_irrefl _),cond_false]
   rw[j1]) ⟨by simp[jb],by simp⟩
 unfold sN
 rw[show oS c (0,[])=some y from h2,h1.1,em,TF _ r (by omega) p m]
 rfl
noncomputable def iu (c:Contract):Bool:=(eo (len c.Clauses) 1 12&&pJ c.Parties)&&(iC c&&(match nT c with | some r=>decide (len r≤16) | none=>false))
theorem uS (c:Contract)(hc:eO c):AK c=some (iu c):=by
 unfold AK iu
 have hp:=Wm c.Parties c.Clauses hc.1
 rw[ls,show vP c=_ from hp,Ll c hc,Option.bind_some]
 cases h1:eo (len c.Clauses) 1 12 with | false=>rfl | true=>?_
 cases pJ c.Parties with | false=>rfl | true=>?_
 cases h2:iC c with | false=>rfl | true=>?_
 rw[mJ] at h1
 obtain⟨r,e,_⟩:=Bn c hc (by simp only[len] at h1;omega) h2
 rw[e]
 rfl
theorem uN (c:Contract)(hc:eO c):Jp c=some (iu c):=by
 unfold Jp iu
 rw[VY c.Parties hc.1,KP c hc,Option.bind_some,jY]
 cases h1:eo (len c.Clauses) 1 12 with | false=>cases pJ c.Parties<;>rfl | true=>?_
 cases pJ c.Parties with | false=>rfl | true=>?_
 cases h2:iC c with | false=>rfl | true=>?_
 rw[mJ] at h1
 obtain⟨r,e,e2,_⟩:=Bn c hc (by simp only[len] at h1;omega) h2
 rw[e,e2]
 rfl
theorem wg {c:Contract}(h:iu c=true):1≤c.Clauses.length∧c.Clauses.length≤12∧pJ c.Parties=true∧∀(i:Nat) e,c.Clauses[i]?=some e→jx c.Clauses e.Id=(i:Int)∧jU c (i:Int) e=true:=by
 simp only[iu,Bool.and_eq_true,mJ] at h
 obtain⟨⟨⟨h1,h2⟩,h3⟩,h4,_⟩:=h
 simp only[len] at h1 h2
 exact⟨by omega,by omega,h3,qo.1 h4⟩
theorem SS {α:Type}(l:List α)(i:Int)(hl:l.length≤1048576):eo i 0 (az (len l - 1))=(aP l i).isSome:=by
 unfold len
 rw[jP (by omega) (by omega)]
 unfold eo aP
 by_cases h0:0≤i
 ·rw[if_pos h0,decide_eq_true h0,Bool.true_and]
  by_cases h1:i≤(l.length:Int) - 1
  ·rw[decide_eq_true h1,List.getElem?_eq_getElem (by omega)];rfl
  ·rw[decide_eq_false h1,List.getElem?_eq_none (by omega)];rfl
 ·rw[if_neg h0,decide_eq_false h0];rfl
theorem Fe {α:Type}{L:Int→Option (Int⊕Unit)}{a:List α}{q:α→Bool}(h:L 0=some (match a.findIdx? q with | some i=>.inl (i:Int) | none=>.inr ())):((bd (ρ:=Int) (L 0) fun _:Unit=>some (-1)).bind fun r=>some (decide (r≥0)))=some (a.any q):=by
 rw[h]
 cases h1:a.findIdx? q with
 | none=>
  have:a.any q=false:=by
   rw[List.findIdx?_eq_none_iff] at h1
   rw[List.any_eq_false]
   intro x hx
   rw[h1 x hx]
   exact Bool.false_ne_true
  rw[this]
  rfl
 | some i=>
  have:a.any q=true:=by
   rw[List.findIdx?_eq_some_iff_getElem] at h1
   obtain⟨hi,he,_⟩:=h1
   rw[List.any_eq_true]
   exact⟨_,List.getElem_mem hi,he⟩
  rw[this]
  simp
def tj (l:List aa)(k:Nat):Bool:=match l[k]? with
 | some e=>fN e&&(match k with
  | 0=>true
  | j+1=>match l[j]? with
   | some p=>Op.bytesLess p e
   | none=>true)
 | none=>true
def nk (l:List aa):Bool:=decide (l.length≤16) && !((List.range l.length).any fun k=>!tj l k)
theorem aa3 (a b:aa):(Op.bytesLess b a||b==a)=!Op.bytesLess a b:=by
 rcases StrL.tri a b with h | h | h
 ·have h2:Op.bytesLess b a=false:=Bool.eq_false_iff.2 fun h3=>StrL.Lt.asymm h h3
  have h3:(b==a)=false:=beq_eq_false_iff_ne.2 fun e=>StrL.Lt.ne h e.symm
  rw[h2,h3,show Op.bytesLess a b=true from h];rfl
 ·subst h
  rw[StrL.lt_irrefl,beq_self_eq_true];rfl
 ·have h2:Op.bytesLess a b=false:=Bool.eq_false_iff.2 fun h3=>StrL.Lt.asymm h h3
  rw[h2,show Op.bytesLess b a=true from h];rfl
theorem uT (l:List aa)(hl:ii mN l)(k:Nat)(hk:k<l.length)(hk16:k≤16):il l (k:Int)=bif !tj l k then some (.inl false) else il l ((k+1:Nat):Int):=by
 have he:=List.getElem?_eq_getElem hk
 have hlen:l.length≤1048576:=hl.1
 rw[tG,jj,ch,decide_eq_true hk,cond_true,decide_eq_true (by omega),gm,cond_true,cu,he,Option.bind_some,mO _ (hl.2 _ (List.getElem_mem hk)),Option.bind_some,dD (by omega)]
 cases k with
 | zero=>
  simp only[tj,he]
  cases fN l[0]<;>rfl
 | succ j=>
  have hj:j<l.length:=by omega
  rw[decide_eq_true (by omega),cond_true,show az (((j+1:Nat):Int) - 1)=(j:Int) by rw[jP (by omega) (by omega)];omega,cu,List.getElem?_eq_getElem hj,Option.bind_some]
  simp only[tj,he,List.getElem?_eq_getElem hj,Option.bind_some]
  cases fN l[j+1]<;>cases Op.bytesLess l[j] l[j+1]<;>rfl
theorem HU (l:List aa)(hl:ii mN l)(k:Nat)(hk:k<l.length):mX l (k:Int)=bif !tj l k then some (.inl false) else mX l ((k+1:Nat):Int):=by
 have he:=List.getElem?_eq_getElem hk
 have hlen:l.length≤1048576:=hl.1
 rw[Hi,lW,ch,decide_eq_true hk,cond_true,cu,he,Option.bind_some,mI _ (hl.2 _ (List.getElem_mem hk)),Option.bind_some,dD (by omega)]
 cases k with
 | zero=>
  simp only[tj,he]
  cases fN l[0]<;>rfl
 | succ j=>
  have hj:j<l.length:=by omega
  rw[decide_eq_true (by omega),cond_true,show az (((j+1:Nat):Int) - 1)=(j:Int) by rw[jP (by omega) (by omega)];omega,cu,List.getElem?_eq_getElem hj,Option.bind_some,aa3]
  simp only[tj,he,List.getElem?_eq_getElem hj]
  cases fN l[j+1]<;>cases Op.bytesLess l[j] l[j+1]<;>rfl
theorem o9 {L:Nat→Option (Bool⊕Unit)}{n:Nat}{q:Nat→Bool}(hs:∀k,k<n→L k=bif q k then some (.inl false) else L (k+1))(he:L n=some (.inr ())):L 0=some (if (List.range n).any q then .inl false else .inr ()):=by
 refine tU (a:=List.range n) (q:=q) (y0:=(Sum.inl false:Bool⊕Unit)) (y1:=.inr ()) (L:=L) (fun i x hx=>?_) (by rw[List.length_range];exact he)
 obtain⟨hi,hx'⟩:=List.getElem?_eq_some_iff.1 hx
 rw[List.getElem_range] at hx'
 subst hx'
 rw[List.length_range] at hi
 exact hs i hi
theorem Ok (l:List aa)(hl:ii mN l):Kb l=some (nk l):=by
 have hlen:l.length≤1048576:=hl.1
 have h:=o9 (L:=fun k=>mX l (k:Int)) (n:=l.length) (q:=fun k=>!tj l k) (fun k hk=>HU l hl k hk) (by
  show mX l (l.length:Int)=_
  rw[Hi,lW,ch,decide_eq_false (Nat.lt_irrefl _),cond_false])
 unfold Kb
 rw[show mX l 0=_ from h]
 unfold nk
 have h16:decide (len l≤16)=decide (l.length≤16):=by
  have:(len l≤16)↔l.length≤16:=by unfold len;omega
  simp only[this]
 cases (List.range l.length).any fun k=>!tj l k<;>simp[h16]
theorem OG (l:List aa)(hl:ii mN l):Ar l=some (nk l):=by
 have hlen:l.length≤1048576:=hl.1
 have h16:decide (len l≤16)=decide (l.length≤16):=by
  have:(len l≤16)↔l.length≤16:=by unfold len;omega
  simp only[this]
 unfold Ar
 by_cases hm:l.length≤16
 ·have h:=o9 (L:=fun k=>il l (k:Int)) (n:=l.length) (q:=fun k=>!tj l k) (fun k hk=>uT l hl k hk (by omega)) (by
   show il l (l.length:Int)=_
   rw[tG,jj,ch,decide_eq_false (Nat.lt_irrefl _),cond_false,gm,cond_false])
  rw[show il l 0=_ from h]
  unfold nk
  cases (List.range l.length).any fun k=>!tj l k<;>simp[h16]
 ·have h:=o9 (L:=fun k=>il l (k:Int)) (n:=17) (q:=fun k=>!tj l k) (fun k hk=>uT l hl k (by omega) (by omega)) (by
   show il l ((17:Nat):Int)=_
   rw[tG,jj,ch]
   by_cases h17:17<l.length
   ·rw[decide_eq_true h17];rfl
   ·rw[decide_eq_false h17];rfl)
  rw[show il l 0=_ from h]
  unfold nk
  rw[h16,decide_eq_false hm]
  cases (List.range 17).any fun k=>!tj l k<;>rfl
def wh (c:Contract)(i:aa):Bool:=c.Clauses.any fun x=>x.Repair==i
theorem Wl (c:Contract)(i:Int)(e:Clause)(he:aP c.Clauses i=some e)(hl:c.Clauses.length≤1048576):AI c i=some (wh c e.Id):=by
 unfold AI
 rw[sU (L:=sC c i) (a:=c.Clauses) (p:=fun x=>some (x.Repair==e.Id)) (q:=fun x=>x.Repair==e.Id) (r:=true) (fun _ _=>rfl) (fun x=>by rw[NH,mt];simp only[he,Option.bind_some]) (by omega)]
 unfold wh
 cases c.Clauses.any fun x=>x.Repair==e.Id<;>rfl
theorem VX (c:Contract)(i:Int)(e:Clause)(he:aP c.Clauses i=some e)(hl:c.Clauses.length≤1048576):J8 c i=some (wh c e.Id):=by
 unfold J8 F4 F9
 rw[Fe (i7 (L:=sd c.Clauses (c,i)) (a:=c.Clauses) (p:=fun x=>J9 x c i) (q:=fun x=>x.Repair==e.Id) (fun x _=>by rw[J9,he];rfl) (fun x=>by rw[Nz,mi]) (by omega))]
 rfl
theorem Wj (s:State)(i:Int)(hl:s.Duties.length≤1048576):AP s i=some ((s.Duties.countP (fun d=>d.Clause==i):Nat):Int):=by
 unfold AP
 obtain⟨y,rfl,h⟩:=nm (L:=fun k (n:Int)=>lb s i (n,(k:Int))) s.Duties.length (fun k n=>n=(((s.Duties.take k).countP (fun d=>d.Clause==i):Nat):Int)) (fun y=>y=.inr ((s.Duties.countP (fun d=>d.Clause==i):Nat):Int)) (s:=0)
  (by
   rintro k n hk rfl
   have hx:=List.getElem?_eq_getElem hk
   refine .inl ⟨_,rfl,?_⟩
   show lb s i (_,(k:Int))=lb s i (_,((k+1:Nat):Int))
   rw[Es,kD]
   simp only[ch,decide_eq_true hk,cond_true,cu,hx,Option.bind_some,gm]
   rw[show az ((k:Int)+1)=((k+1:Nat):Int) from dD (by omega)]
   have h1:(s.Duties.take (k+1)).countP (fun d=>d.Clause==i)=(s.Duties.take k).countP (fun d=>d.Clause==i)+if (s.Duties[k].Clause==i)=true then 1 else 0:=by
    rw[List.take_add_one,hx,List.countP_append,Option.toList_some,List.countP_singleton]
   have h2:=List.countP_le_length (l:=s.Duties.take k) (p:=fun d=>d.Clause==i)
   rw[List.length_take] at h2
   rw[h1]
   cases h3:s.Duties[k].Clause==i with
   | false=>simp
   | true=>rw[cond_true,jP (by omega) (by omega)];simp)
  (by
   rintro n rfl
   refine⟨_,rfl,?_⟩
   show lb s i (_,(s.Duties.length:Int))=_
   rw[Es,kD]
   simp only[ch,decide_eq_false (Nat.lt_irrefl _),cond_false,List.take_length]) (by simp)
 rw[show lb s i (0,0)=_ from h]
 rfl
def pK (D:List Duty)(k:Nat)(d:Duty):Bool:=match k with
 | 0=>false
 | j+1=>match D[j]? with
  | some p=>decide (p.Since>d.Since)
  | none=>false
def lR (s:State)(d:Duty):Bool:=bif d.Status==1 then (decide (d.Due≥s.Day) && !s.Over) else bif d.Status==2 then true else bif d.Status==3 then decide (d.Due<s.Day) else bif d.Status==4 then s.Over else false
def clB (s:State)(d:Duty)(e:Clause):Bool:=(e.Kind==1)&&(eo d.Since 0 s.Day&&((d.Due==az (d.Since+e.Within))&&eo d.Due 0 36524))
def wZ (c:Contract)(s:State)(k:Nat)(d:Duty):Bool:=match aP c.Clauses d.Clause with
 | some e=>clB s d e&&(!pK s.Duties k d&&lR s d)
 | none=>false
def tZ (c:Contract)(i:Int):Bool:=match aP c.Clauses i with
 | some e=>wh c e.Id
 | none=>false
theorem acj {s:State}{d:Duty}(h:lR s d=true):eo d.Status 1 4=true:=by
 unfold lR at h
 rw[mJ]
 cases h1:d.Status==1 with
 | true=>have:=eq_of_beq h1;omega
 | false=>
  cases h2:d.Status==2 with
  | true=>have:=eq_of_beq h2;omega
  | false=>
   cases h3:d.Status==3 with
   | true=>have:=eq_of_beq h3;omega
   | false=>
    cases h4:d.Status==4 with
    | true=>have:=eq_of_beq h4;omega
    | false=>rw[h1,h2,h3,h4] at h;cases h
theorem abd (s:State)(d:Duty)(h:eo d.Status 1 4=true):(bif d.Status==1 then (bif decide (d.Due<s.Day) then true else (bif s.Over then true else (bif d.Status==3 then (bif decide (d.Due≥s.Day) then true else (bif d.Status==4 then !s.Over else false)) else (bif d.Status==4 then !s.Over else false)))) else (bif d.Status==3 then (bif decide (d.Due≥s.Day) then true else (bif d.Status==4 then !s.Over else false)) else (bif d.Status==4 then !s.Over else false)))=!lR s d:=by
 rw[mJ] at h
 unfold lR
 have hd:decide (d.Due≥s.Day)=!decide (d.Due<s.Day):=by
  by_cases h2:d.Due<s.Day
  ·rw[decide_eq_true h2,decide_eq_false (by omega)];rfl
  ·rw[decide_eq_false h2,decide_eq_true (by omega)];rfl
 rw[hd]
 generalize decide (d.Due<s.Day)=x
 have h4:d.Status=1∨d.Status=2∨d.Status=3∨d.Status=4:=by omega
 rcases h4 with h4 | h4 | h4 | h4<;>rw[h4]<;>cases x<;>cases s.Over<;>rfl
theorem Tj (c:Contract)(s:State)(k:Nat)(hk:k<s.Duties.length)(hl:s.Duties.length≤1048576)(hc:c.Clauses.length≤1048576) :
  AR c s (k:Int)=some (wZ c s k s.Duties[k]&&(tZ c s.Duties[k].Clause||s.Duties.countP (fun d=>d.Clause==s.Duties[k].Clause)==1)):=by
 have he:=List.getElem?_eq_getElem hk
 unfold AR
 rw[cu,he,Option.bind_some]
 have hp:∀(f:Bool→Option (Bool⊕Bool)) (g:Duty→Option (Bool⊕Bool)) ,(∀p,g p=f (decide (p.Since>s.Duties[k].Since)))→(bif decide ((k:Int)>0) then ((aP s.Duties (az ((k:Int) - 1))).bind g) else f false)=f (pK s.Duties k s.Duties[k]):=by
  intro f g hg
  cases k with
  | zero=>rfl
  | succ j=>
   have hj:j<s.Duties.length:=by omega
   rw[decide_eq_true (by omega),cond_true,show az (((j+1:Nat):Int) - 1)=(j:Int) by rw[jP (by omega) (by omega)];omega,cu,List.getElem?_eq_getElem hj,Option.bind_some,hg]
   simp only[pK,List.getElem?_eq_getElem hj]
 generalize s.Duties[k]=d at *
 rw[ls,Option.bind_some,SS _ _ hc]
 unfold wZ
 cases hg:aP c.Clauses d.Clause with
 | none=>rfl
 | some e=>
  rw[Option.isSome_some]
  simp only[Bool.not_true,cond_false,Option.bind_some,ls,qc]
  unfold clB
  cases h1:e.Kind==1 with
  | false=>rw[bne,h1];rfl
  | true=>
   rw[bne,h1]
   cases h2:eo d.Since 0 s.Day with
   | false=>rfl
   | true=>
    cases h3:d.Due==az (d.Since+e.Within) with
    | false=>rw[bne,h3];rfl
    | true=>
     rw[bne,h3]
     cases h4:eo d.Due 0 36524 with
     | false=>rfl
     | true=>
      cases h5:eo d.Status 1 4 with
      | false=>
       have:lR s d=false:=Bool.eq_false_iff.2 fun h=>by rw[acj h] at h5;cases h5
       rw[this]
       simp
      | true=>
       simp only[Bool.not_true,cond_false,gx,em,gm,abd s d h5]
       rw[show (bif decide ((k:Int)>0) then (aP s.Duties (az ((k:Int) - 1))).bind (fun e11=>(some (.inr (bif decide (e11.Since>d.Since) then true else !lR s d)):Option (Bool⊕Bool))) else some (.inr (!lR s d)))=some (.inr (bif pK s.Duties k d then true else !lR s d)) from hp (fun b=>some (.inr (bif b then true else !lR s d))) _ (fun p=>rfl)]
       rw[em]
       rw[show tZ c d.Clause=wh c e.Id by unfold tZ;rw[hg],Wl c _ e hg hc,Wj s _ hl]
       have hcn:∀n:Nat,((n:Int)==1)=(n==1):=fun n=>by
        by_cases h:n=1
        ·subst h;rfl
        ·rw[beq_eq_false_iff_ne.2 h,beq_eq_false_iff_ne.2 (by omega)]
       simp only[Option.bind_some,hcn]
       generalize (List.countP (fun d_1=>d_1.Clause==d.Clause) s.Duties==1)=z
       cases pK s.Duties k d<;>cases lR s d<;>cases wh c e.Id<;>cases z<;>rfl
def qQ (D:List Duty)(k:Nat)(i:Int):Bool:=(D.take k).any fun o=>o.Clause==i
theorem SO (c:Contract)(s:State)(k:Nat)(hk:k<s.Duties.length)(hl:s.Duties.length≤1048576)(hc:c.Clauses.length≤1048576) :
  Ka c s (k:Int)=some (wZ c s k s.Duties[k]&&(tZ c s.Duties[k].Clause || !qQ s.Duties k s.Duties[k].Clause)):=by
 have he:=List.getElem?_eq_getElem hk
 unfold Ka
 rw[cu,he,Option.bind_some]
 have hp:∀(f:Bool→Option (Bool⊕Bool)) (g:Duty→Option (Bool⊕Bool)) ,(∀p,g p=f (decide (p.Since>s.Duties[k].Since)))→(bif decide ((k:Int)>0) then ((aP s.Duties (az ((k:Int) - 1))).bind g) else f false)=f (pK s.Duties k s.Duties[k]):=by
  intro f g hg
  cases k with
  | zero=>rfl
  | succ j=>
   have hj:j<s.Duties.length:=by omega
   rw[decide_eq_true (by omega),cond_true,show az (((j+1:Nat):Int) - 1)=(j:Int) by rw[jP (by omega) (by omega)];omega,cu,List.getElem?_eq_getElem hj,Option.bind_some,hg]
   simp only[pK,List.getElem?_eq_getElem hj]
 generalize s.Duties[k]=d at *
 rw[jY,Option.bind_some,SS _ _ hc]
 unfold wZ
 cases hg:aP c.Clauses d.Clause with
 | none=>rfl
 | some e=>
  rw[Option.isSome_some]
  simp only[Bool.not_true,cond_false,Option.bind_some,jY,nF]
  unfold clB
  cases h1:e.Kind==1 with
  | false=>rw[bne,h1];rfl
  | true=>
   rw[bne,h1]
   cases h2:eo d.Since 0 s.Day with
   | false=>rfl
   | true=>
    cases h3:d.Due==az (d.Since+e.Within) with
    | false=>rw[bne,h3];rfl
    | true=>
     rw[bne,h3]
     cases h4:eo d.Due 0 36524 with
     | false=>rfl
     | true=>
      simp only[Bool.not_true,cond_false,gx,em]
      rw[show (bif decide ((k:Int)>0) then (aP s.Duties (az ((k:Int) - 1))).bind (fun e17=>(some (.inr (decide (d.Since<e17.Since))):Option (Bool⊕Bool))) else some (.inr false))=some (.inr (pK s.Duties k d)) from hp (fun b=>some (.inr b)) _ (fun p=>rfl)]
      simp only[gx,em]
      cases pK s.Duties k d with
      | true=>rfl
      | false=>
       rw[cond_false,VX c _ e hg hc,Option.bind_some,Bz (by omega),Option.bind_some]
       unfold F5 Gb
       rw[Fe (i7 (L:=sh (s.Duties.take k) d) (a:=s.Duties.take k) (p:=fun x=>MI x d) (q:=fun o=>o.Clause==d.Clause) (fun x _=>rfl) (fun x=>by rw[NC,ml]) (by rw[List.length_take];omega))]
       rw[show tZ c d.Clause=wh c e.Id by unfold tZ;rw[hg]]
       unfold qQ lR
       cases wh c e.Id<;>cases ((s.Duties.take k).any fun o=>o.Clause==d.Clause)<;>cases (d.Status==1)<;>cases (d.Status==2)<;>cases (d.Status==3)<;>cases (d.Status==4)<;>cases s.Over<;>cases decide (d.Due≥s.Day)<;>cases decide (d.Due<s.Day)<;>rfl
def pO (c:Contract)(s:State)(k:Nat):Bool:=match s.Duties[k]? with
 | some d=>wZ c s k d&&(tZ c d.Clause||s.Duties.countP (fun o=>o.Clause==d.Clause)==1)
 | none=>true
def pA (c:Contract)(s:State)(k:Nat):Bool:=match s.Duties[k]? with
 | some d=>wZ c s k d&&(tZ c d.Clause || !qQ s.Duties k d.Clause)
 | none=>true
theorem Hp (D:List Duty)(k:Nat)(hk:k<D.length)(p:Duty→Bool):D.countP p=(D.take k).countP p+((if p D[k]=true then 1 else 0)+(D.drop (k+1)).countP p):=by
 conv=>lhs;rw[←List.take_append_drop k D,List.drop_eq_getElem_cons hk]
 rw[List.countP_append,List.countP_cons]
 omega
theorem SC (c:Contract)(s:State):((List.range s.Duties.length).any fun k=>!pO c s k)=((List.range s.Duties.length).any fun k=>!pA c s k):=by
 have key:(∀k,k<s.Duties.length→pO c s k=true)↔(∀k,k<s.Duties.length→pA c s k=true):=by
  constructor
  ·intro h k hk
   have h1:=h k hk
   unfold pO at h1
   unfold pA
   rw[List.getElem?_eq_getElem hk] at h1 ⊢
   simp only[Bool.and_eq_true,Bool.or_eq_true,beq_iff_eq] at h1 ⊢
   refine⟨h1.1,h1.2.imp id fun h2=>?_⟩
   have h3:=Hp s.Duties k hk (fun o=>o.Clause==s.Duties[k].Clause)
   rw[if_pos (by simp),h2] at h3
   have h4:(s.Duties.take k).countP (fun o=>o.Clause==s.Duties[k].Clause)=0:=by omega
   rw[List.countP_eq_zero] at h4
   rw[Bool.not_eq_true',qQ,List.any_eq_false]
   exact h4
  ·intro h k hk
   have h1:=h k hk
   unfold pA at h1
   unfold pO
   rw[List.getElem?_eq_getElem hk] at h1 ⊢
   simp only[Bool.and_eq_true,Bool.or_eq_true,beq_iff_eq] at h1 ⊢
   refine⟨h1.1,?_⟩
   cases hd:tZ c s.Duties[k].Clause with
   | true=>exact .inl rfl
   | false=>
    refine .inr ?_
    have h2:qQ s.Duties k s.Duties[k].Clause=false:=by
     rcases h1.2 with h2 | h2
     ·rw[hd] at h2;cases h2
     ·simpa using h2
    rw[Hp s.Duties k hk (fun o=>o.Clause==s.Duties[k].Clause),if_pos (by simp)]
    have e1:(s.Duties.take k).countP (fun o=>o.Clause==s.Duties[k].Clause)=0:=by
     rw[List.countP_eq_zero]
     rw[qQ,List.any_eq_false] at h2
     exact h2
    have e2:(s.Duties.drop (k+1)).countP (fun o=>o.Clause==s.Duties[k].Clause)=0:=by
     rw[List.countP_eq_zero]
     intro x hx hq
     obtain⟨j,hj,rfl⟩:=List.mem_iff_getElem.1 hx
     rw[List.length_drop] at hj
     rw[List.getElem_drop] at hq
     have h5:=h (k+1+j) (by omega)
     unfold pA at h5
     rw[List.getElem?_eq_getElem (by omega)] at h5
     simp only[Bool.and_eq_true,Bool.or_eq_true] at h5
     rw[beq_iff_eq] at hq
     rw[hq,hd] at h5
     have h6:qQ s.Duties (k+1+j) s.Duties[k].Clause=true:=by
      rw[qQ,List.any_eq_true]
      refine⟨s.Duties[k],?_,by simp⟩
      rw[List.mem_iff_getElem]
      exact⟨k,by rw[List.length_take];omega,by rw[List.getElem_take]⟩
     rw[h6] at h5
     simp at h5
    omega
 rw[Bool.eq_iff_iff,List.any_eq_true,List.any_eq_true]
 have k2:=not_congr key
 simp only[Classical.not_forall] at k2
 simp only[List.mem_range,Bool.not_eq_true']
 constructor
 ·rintro⟨k,hk,hq⟩
  obtain⟨j,hj,hq2⟩:=k2.1 ⟨k,hk,by simp[hq]⟩
  exact⟨j,hj,by simpa using hq2⟩
 ·rintro⟨k,hk,hq⟩
  obtain⟨j,hj,hq2⟩:=k2.2 ⟨k,hk,by simp[hq]⟩
  exact⟨j,hj,by simpa using hq2⟩
def tT (x:Int):Bool:=eo x (-1000000000) 1000000000
theorem abf (l:List Int)(hl:l.length≤1048576):∃v,tF l=some v∧uX l=some v:=by
 have h:∃v,jR l (0,0)=some (.inr v):=by
  obtain⟨y,⟨v,rfl⟩,h⟩:=nm (L:=fun k (n:Int)=>jR l (n,(k:Int))) l.length (fun k n=>True) (fun y=>∃v,y=.inr v) (s:=0)
   (by
    intro k n hk _
    refine .inl ⟨az (n+l[k]),trivial,?_⟩
    show jR l (_,(k:Int))=jR l (_,((k+1:Nat):Int))
    rw[DD,kt]
    simp only[ch,decide_eq_true hk,cond_true,cu,List.getElem?_eq_getElem hk,Option.bind_some]
    rw[show az ((k:Int)+1)=((k+1:Nat):Int) from dD (by omega)])
   (by
    intro n _
    refine⟨.inr n,⟨n,rfl⟩,?_⟩
    show jR l (_,(l.length:Int))=_
    rw[DD,kt]
    simp only[ch,decide_eq_false (Nat.lt_irrefl _),cond_false]) trivial
  exact⟨v,h⟩
 obtain⟨v,h⟩:=h
 refine⟨v,?_,?_⟩
 ·unfold tF;rw[h];rfl
 ·unfold uX;rw[show F0 l (0,0)=jR l (0,0) from rfl,h];rfl
structure StF (c:Contract) (s:State) (names:List aa):Prop where
 day:eo s.Day 0 36524=true
 facts:nk s.Facts=true
 sub:s.Facts.all (fun f=>names.contains f)=true
 dl:s.Duties.length≤24
 bl:s.Balances.length=c.Parties.length
 dut:∀k,k<s.Duties.length→pO c s k=true
 amt:s.Balances.all tT=true
 sum:tF s.Balances=some 0
noncomputable def wI (c:Contract)(s:State)(names:List aa)(v:Int):Bool:=
 eo s.Day 0 36524&&(nk s.Facts&&(decide (s.Duties.length≤24)&&((s.Balances.length==c.Parties.length)&&(s.Facts.all (fun f=>names.contains f)&&(!((List.range s.Duties.length).any fun k=>!pO c s k)&&(s.Balances.all tT&&v==0))))))
theorem OK (c:Contract)(s:State)(hc:eO c)(hs:iL s)(hb:iu c=true){names:List aa}(hn:nT c=some names)(hnl:names.length≤1048576){v:Int}(hv:tF s.Balances=some v):tL c s=some (wI c s names v):=by
 have hdl:s.Duties.length≤1048576:=hs.2.2.1.1
 have hbl:s.Balances.length≤1048576:=hs.2.2.2.1.1
 have hfl:s.Facts.length≤1048576:=hs.2.1.1
 have hcl:c.Clauses.length≤1048576:=hc.2.1
 unfold tL wI
 rw[uS c hc,Option.bind_some,hb]
 simp only[Bool.not_true,cond_false]
 rw[show qc s.Day=some (eo s.Day 0 36524) by unfold qc;rw[ls];rfl,Option.bind_some]
 cases eo s.Day 0 36524 with
 | false=>rfl
 | true=>
  simp only[Bool.not_true,cond_false]
  rw[OG _ hs.2.1,Option.bind_some]
  cases nk s.Facts with
  | false=>rfl
  | true=>
   simp only[Bool.not_true,cond_false,gm]
   have h24:decide (len s.Duties>24)=!decide (s.Duties.length≤24):=by
    by_cases h:s.Duties.length≤24
    ·rw[decide_eq_true h,decide_eq_false (by unfold len;omega)];rfl
    ·rw[decide_eq_false h,decide_eq_true (by unfold len;omega)];rfl
   rw[h24]
   cases decide (s.Duties.length≤24) with
   | false=>rfl
   | true=>
    have hbe:(len s.Balances != len c.Parties)=!(s.Balances.length==c.Parties.length):=by
     unfold len
     by_cases h:s.Balances.length=c.Parties.length
     ·rw[h,bne,beq_self_eq_true,beq_self_eq_true]
     ·rw[bne,beq_eq_false_iff_ne.2 h,beq_eq_false_iff_ne.2 (by omega)]
    simp only[Bool.not_true,cond_false]
    rw[hbe]
    cases s.Balances.length==c.Parties.length with
    | false=>rfl
    | true=>
     simp only[Bool.not_true,cond_false,gx,em]
     rw[hn,Option.bind_some]
     rw[GI (L:=sH c s names) (a:=s.Facts) (f:=fun e=>pf names e) (p:=fun f=>names.contains f) (fun x _=>MV names x hnl) (fun x=>by rw[NK,my]) (by omega)]
     cases s.Facts.all (fun f=>names.contains f) with
     | false=>rfl
     | true=>
      rw[if_pos rfl,em]
      have h:=o9 (L:=fun k=>mz c s (k:Int)) (n:=s.Duties.length) (q:=fun k=>!pO c s k) (fun k hk=>by
       show mz c s (k:Int)=_
       rw[Ex,kE,ch,decide_eq_true hk,cond_true,Tj c s k hk hdl hcl,Option.bind_some,dD (by omega)]
       unfold pO
       rw[List.getElem?_eq_getElem hk]) (by
       show mz c s (s.Duties.length:Int)=_
       rw[Ex,kE,ch,decide_eq_false (Nat.lt_irrefl _),cond_false])
      rw[show mz c s 0=_ from h]
      cases (List.range s.Duties.length).any fun k=>!pO c s k with
      | true=>rfl
      | false=>
       rw[if_neg Bool.false_ne_true,em]
       rw[GI (L:=sJ c s) (a:=s.Balances) (f:=Ao) (p:=tT) (fun x _=>by unfold Ao;rw[ls];rfl) (fun x=>by rw[NL,mA]) (by omega)]
       cases s.Balances.all tT with
       | false=>rfl
       | true=>
        rw[if_pos rfl,em,hv]
        rfl
theorem Oo (c:Contract)(s:State)(hc:eO c)(hs:iL s){names:List aa}(hn:sN c=some names)(hnl:names.length≤1048576){v:Int}(hv:uX s.Balances=some v):Kc c s=some (wI c s names v):=by
 have hdl:s.Duties.length≤1048576:=hs.2.2.1.1
 have hbl:s.Balances.length≤1048576:=hs.2.2.2.1.1
 have hfl:s.Facts.length≤1048576:=hs.2.1.1
 have hcl:c.Clauses.length≤1048576:=hc.2.1
 unfold Kc wI
 rw[hn,Option.bind_some]
 rw[show nF s.Day=some (eo s.Day 0 36524) by unfold nF;rw[jY];rfl,Option.bind_some]
 cases eo s.Day 0 36524 with
 | false=>rfl
 | true=>
  simp only[Bool.not_true,cond_false]
  rw[Ok _ hs.2.1,Option.bind_some]
  cases nk s.Facts with
  | false=>rfl
  | true=>
   simp only[Bool.not_true,cond_false]
   unfold F7 Gd
   rw[Fe (i7 (L:=sj s.Facts names) (a:=s.Facts) (p:=fun x=>Kd x names) (q:=fun f=>!names.contains f) (fun x _=>by rw[Kd,we names x hnl];rfl) (fun x=>by rw[NE,mn]) (by omega))]
   have ha:(s.Facts.any fun f=>!names.contains f)=!(s.Facts.all fun f=>names.contains f):=by rw[List.not_all_eq_any_not]
   rw[ha,Option.bind_some]
   have h24:decide (len s.Duties>24)=!decide (s.Duties.length≤24):=by
    by_cases h:s.Duties.length≤24
    ·rw[decide_eq_true h,decide_eq_false (by unfold len;omega)];rfl
    ·rw[decide_eq_false h,decide_eq_true (by unfold len;omega)];rfl
   have hbe:(len s.Balances != len c.Parties)=!(s.Balances.length==c.Parties.length):=by
    unfold len
    by_cases h:s.Balances.length=c.Parties.length
    ·rw[h,bne,beq_self_eq_true,beq_self_eq_true]
    ·rw[bne,beq_eq_false_iff_ne.2 h,beq_eq_false_iff_ne.2 (by omega)]
   rw[h24,hbe]
   cases s.Facts.all (fun f=>names.contains f) with
   | false=>cases decide (s.Duties.length≤24)<;>cases s.Balances.length==c.Parties.length<;>rfl
   | true=>
    simp only[Bool.not_true,gx,em,cond_false]
    cases decide (s.Duties.length≤24) with
    | false=>rfl
    | true=>
     cases s.Balances.length==c.Parties.length with
     | false=>rfl
     | true=>
      simp only[Bool.not_true,cond_false,gx,em,hv,Option.bind_some]
      have h:=o9 (L:=fun k=>oT c s (k:Int)) (n:=s.Duties.length) (q:=fun k=>!pA c s k) (fun k hk=>by
       show oT c s (k:Int)=_
       rw[Hj,lX,ch,decide_eq_true hk,cond_true,SO c s k hk hdl hcl,Option.bind_some,dD (by omega)]
       unfold pA
       rw[List.getElem?_eq_getElem hk]) (by
       show oT c s (s.Duties.length:Int)=_
       rw[Hj,lX,ch,decide_eq_false (Nat.lt_irrefl _),cond_false])
      rw[show oT c s 0=_ from h,SC]
      unfold F6 Gc
      rw[Fe (i7 (L:=si s.Balances ()) (a:=s.Balances) (p:=fun x=>Ke x) (q:=fun b=>!tT b) (fun x _=>by rw[Ke,MH,jY];rfl) (fun x=>by rw[ND,mm]) (by omega))]
      have hb2:(s.Balances.any fun b=>!tT b)=!(s.Balances.all tT):=by rw[List.not_all_eq_any_not]
      rw[hb2]
      cases hv0:v==0 with
      | false=>
       rw[bne,hv0]
       cases (List.range s.Duties.length).any fun k=>!pA c s k<;>cases s.Balances.all tT<;>rfl
      | true=>
       rw[bne,hv0]
       cases (List.range s.Duties.length).any fun k=>!pA c s k<;>cases s.Balances.all tT<;>rfl
theorem abe (c:Contract)(s:State)(hc:eO c)(hs:iL s):∃b,tL c s=some b∧Hc c s=some b∧(b=true→iu c=true∧∃names,nT c=some names∧sN c=some names∧StF c s names):=by
 cases hb:iu c with
 | false=>
  refine⟨false,?_,?_,by simp⟩
  ·unfold tL;rw[uS c hc,Option.bind_some,hb];rfl
  ·unfold Hc;rw[uN c hc,Option.bind_some,hb];rfl
 | true=>
  obtain⟨f1,f2,f3,f4⟩:=wg hb
  obtain⟨names,n1,n2,n3,n4⟩:=Bn c hc f2 (qo.2 f4)
  obtain⟨v,v1,v2⟩:=abf s.Balances hs.2.2.2.1.1
  have hnl:names.length≤1048576:=Nat.le_trans n4.2 (by decide)
  refine⟨_,OK c s hc hs hb n1 hnl v1,?_,fun h=>⟨rfl,names,n1,n2,?_⟩⟩
  ·unfold Hc
   rw[uN c hc,Option.bind_some,hb,cond_true,Oo c s hc hs n2 hnl v2]
   rfl
  ·unfold wI at h
   simp only[Bool.and_eq_true,decide_eq_true_eq,beq_iff_eq,Bool.not_eq_true'] at h
   obtain⟨g1,g2,g3,g4,g5,g6,g7,g8⟩:=h
   refine⟨g1,g2,g5,g3,g4,fun k hk=>?_,g7,by rw[v1,g8]⟩
   rw[List.any_eq_false] at g6
   have:=g6 k (List.mem_range.2 hk)
   simpa using this
theorem VS {c:Condition}(h:pz c=true):(c.Op=1∧c.Parts=[])∨(c.Op=2∧c.Parts=[])∨(c.Op=3∧c.Parts=[])∨(c.Op=4∧∃p,c.Parts=[p])∨(c.Op=5∧∃p q,c.Parts=[p,q])∨(c.Op=6∧∃p q,c.Parts=[p,q]):=by
 rw[ue,Bq,Lp] at h
 rw[Bool.and_eq_true,Bool.and_eq_true,decide_eq_true_iff,mJ] at h
 obtain⟨⟨⟨h1,h2⟩,h3⟩,_⟩:=h
 have ho:c.Op=1∨c.Op=2∨c.Op=3∨c.Op=4∨c.Op=5∨c.Op=6:=by omega
 have two:∀{a:List Condition},a.length=2→∃p q,a=[p,q]:=fun {a} h=>by
  match a,h with
  | [p,q],_=>exact⟨p,q,rfl⟩
 have one:∀{a:List Condition},a.length=1→∃p,a=[p]:=fun {a} h=>by
  match a,h with
  | [p],_=>exact⟨p,rfl⟩
 rcases ho with h | h | h | h | h | h<;>simp only[h] at h3 ⊢
 ·exact .inl ⟨trivial,List.length_eq_zero_iff.1 (by simpa using h3)⟩
 ·exact .inr (.inl ⟨trivial,List.length_eq_zero_iff.1 (by simpa using h3)⟩)
 ·exact .inr (.inr (.inl ⟨trivial,List.length_eq_zero_iff.1 (by simpa using h3)⟩))
 ·exact .inr (.inr (.inr (.inl ⟨trivial,one (by simpa using h3)⟩)))
 ·exact .inr (.inr (.inr (.inr (.inl ⟨trivial,two (by simpa using h3)⟩))))
 ·exact .inr (.inr (.inr (.inr (.inr ⟨trivial,two (by simpa using h3)⟩))))
theorem Kt (a:List aa)(s:aa)(ha:a.length≤1048576):mR a s=some (a.contains s):=by
 unfold mR vu
 rw[i7 (L:=nS a s) (a:=a) (p:=fun e=>some (s==e)) (q:=fun e=>s==e) (fun _ _=>rfl) (fun x=>by rw[tE,ji]<;>rfl) (by omega)]
 cases h:a.findIdx? (fun e=>s==e) with
 | none=>
  have:a.contains s=false:=by
   rw[List.findIdx?_eq_none_iff] at h
   rw[Bool.eq_false_iff]
   intro hc
   rw[List.contains_iff_exists_mem_beq] at hc
   obtain⟨w,hw,he⟩:=hc
   rw[h w hw] at he
   cases he
  rw[this]
  rfl
 | some i=>
  have:a.contains s=true:=by
   rw[List.findIdx?_eq_some_iff_getElem] at h
   obtain⟨hi,he,_⟩:=h
   rw[List.contains_iff_exists_mem_beq]
   exact⟨_,List.getElem_mem hi,he⟩
  rw[this]
  simp
theorem Yd (a:List aa)(s:aa)(ha:a.length≤1048576):pf a s=some (a.contains s):=by
 unfold pf
 rw[sU (L:=pU a s) (a:=a) (p:=fun e=>some (e==s)) (r:=true) (q:=fun e=>e==s) (fun x _=>rfl) (fun x=>by rw[DT,kv]<;>rfl) (by omega)]
 have:a.any (fun e=>e==s)=a.contains s:=by
  rw[List.contains_eq_any_beq]
  congr 1
  funext e
  exact Bool.beq_comm
 rw[this]
 cases a.contains s<;>rfl
theorem MX (c:Condition):et c=true→∀(f:List aa) (d:Int),f.length≤1048576→∃b,Gf c f d=some b∧J4 c f d=some b:=by
 refine fz (P:=fun c=>et c=true→∀(f:List aa) (d:Int),f.length≤1048576→∃b,Gf c f d=some b∧J4 c f d=some b) ?_ c
 intro c ih hf f d hl
 rw[qT,Bool.and_eq_true,List.all_eq_true] at hf
 obtain⟨hf,hp⟩:=hf
 rw[Xi,aaM]
 unfold sr wY
 have g0:∀{p:Condition} {l:List Condition},aP (p::l) 0=some p:=rfl
 have g1:∀{p q:Condition} {l:List Condition},aP (p::q::l) 1=some q:=rfl
 rcases VS hf with⟨o,e⟩ | ⟨o,e⟩ | ⟨o,e⟩ | ⟨o,p,e⟩ | ⟨o,p,q,e⟩ | ⟨o,p,q,e⟩
 ·exact⟨true,by rw[o];rfl,by rw[o];rfl⟩
 ·exact⟨f.contains c.Name,by rw[o,Yd f _ hl];rfl,by rw[o,Kt f _ hl];rfl⟩
 ·exact⟨decide (d≥c.Day),by rw[o];rfl,by rw[o];rfl⟩
 ·rw[e] at ih hp
  obtain⟨b,h1,h2⟩:=ih p (by simp) (hp p (by simp)) f d hl
  refine⟨!b,?_,?_⟩
  ·rw[o,e]
   simp only[Int.reduceBEq,cond_false,cond_true]
   rw[g0,Option.bind_some,show aN kw (p,f,d)=_ from h1];rfl
  ·rw[o,e]
   simp only[Int.reduceBEq,cond_false,cond_true]
   rw[g0,Option.bind_some,show aN mW (p,f,d)=_ from h2];rfl
 ·rw[e] at ih hp
  obtain⟨b,h1,h2⟩:=ih p (by simp) (hp p (by simp)) f d hl
  obtain⟨b',h3,h4⟩:=ih q (by simp) (hp q (by simp)) f d hl
  refine⟨b&&b',?_,?_⟩
  ·rw[o,e]
   simp only[Int.reduceBEq,cond_false,cond_true]
   rw[g0,g1,Option.bind_some,show aN kw (p,f,d)=_ from h1,Option.bind_some]
   cases b with
   | false=>rfl
   | true=>rw[cond_true,Option.bind_some,show aN kw (q,f,d)=_ from h3];rfl
  ·rw[o,e]
   simp only[Int.reduceBEq,cond_false,cond_true]
   rw[g0,g1,Option.bind_some,show aN mW (p,f,d)=_ from h2,Option.bind_some]
   cases b with
   | false=>rfl
   | true=>rw[cond_true,Option.bind_some,show aN mW (q,f,d)=_ from h4];rfl
 ·rw[e] at ih hp
  obtain⟨b,h1,h2⟩:=ih p (by simp) (hp p (by simp)) f d hl
  obtain⟨b',h3,h4⟩:=ih q (by simp) (hp q (by simp)) f d hl
  refine⟨b||b',?_,?_⟩
  ·rw[o,e]
   simp only[Int.reduceBEq,cond_false,cond_true]
   rw[g0,g1,Option.bind_some,show aN kw (p,f,d)=_ from h1,Option.bind_some]
   cases b with
   | true=>rfl
   | false=>rw[cond_false,Option.bind_some,show aN kw (q,f,d)=_ from h3];rfl
  ·rw[o,e]
   simp only[Int.reduceBEq,cond_false,cond_true]
   rw[g0,g1,Option.bind_some,show aN mW (p,f,d)=_ from h2,Option.bind_some]
   cases b with
   | true=>rfl
   | false=>rw[cond_false,Option.bind_some,show aN mW (q,f,d)=_ from h4];rfl
noncomputable def qV (c:Condition)(f:List aa)(d:Int):Bool:=(J4 c f d).getD false
theorem Tl {c:Condition}(h:et c=true){f:List aa}{d:Int}(hl:f.length≤1048576):Gf c f d=some (qV c f d):=by
 obtain⟨b,h1,h2⟩:=MX c h f d hl
 unfold qV
 rw[h1,h2];rfl
theorem SP {c:Condition}(h:et c=true){f:List aa}{d:Int}(hl:f.length≤1048576):J4 c f d=some (qV c f d):=by
 obtain⟨b,h1,h2⟩:=MX c h f d hl
 unfold qV
 rw[h2];rfl
theorem SA (a:List aa)(ha:a.length≤1048576):zV a=some a:=by
 unfold zV wu iB
 rw[if_pos (by simp only[List.length_nil,kh];omega)]
 cases a<;>simp[xa]
theorem N4 (a:List Duty)(ha:a.length≤1048576):zR a=some a:=by
 unfold zR wu iB
 rw[if_pos (by simp only[List.length_nil,kh];omega)]
 cases a<;>simp[xa]
theorem Sz (a:List Int)(ha:a.length≤1048576):zT a=some a:=by
 unfold zT wu iB
 rw[if_pos (by simp only[List.length_nil,kh];omega)]
 cases a<;>simp[xa]
theorem S8 (s:State)(hs:iL s):yT s=some s:=by
 unfold yT
 rw[SA _ hs.2.1.1,N4 _ hs.2.2.1.1,Sz _ hs.2.2.2.1.1]
 rfl
theorem Yj (c:Contract)(s:State)(hs:iL s){names:List aa}(hn:sN c=some names):Kf c s=some ⟨c,s,names,[],false⟩:=by
 unfold Kf
 rw[S8 s hs,Option.bind_some,hn]
 rfl
theorem Nj {c:Contract}(h:iu c=true){i:Int}{e:Clause}(he:aP c.Clauses i=some e):et e.When=true:=by
 unfold aP at he
 split at he
 ·have h1:=wb ((wg h).2.2.2 _ e he).2
  simp only[ox,Bool.and_eq_true] at h1
  exact h1.1
 ·cases he
noncomputable def KE (s:State)(kind party:Int)(action:aa)(x:Clause):Bool:=(x.Kind==kind)&&((x.Party==party)&&((x.Action==action)&&qV x.When s.Facts s.Day))
def aa9:Option Nat→Int
 | some i=>(i:Int)
 | none=>-1
noncomputable def KD (c:Contract)(s:State)(kind party:Int)(action:aa):Int:=aa9 (c.Clauses.findIdx? (KE s kind party action))
theorem Ww {c:Contract}(h:iu c=true){e:Clause}(he:e∈c.Clauses):et e.When=true:=by
 obtain⟨i,hi,rfl⟩:=List.mem_iff_getElem.1 he
 exact Nj h (i:=(i:Int)) (by rw[cu,List.getElem?_eq_getElem hi])
theorem MY {o:Option Nat}{L:Int→Option (Int⊕Unit)}(h:L 0=some (match o with | some i=>.inl (i:Int) | none=>.inr ())):(bd (ρ:=Int) (L 0) fun _:Unit=>some (-1))=some (aa9 o):=by
 rw[h]
 cases o<;>rfl
theorem OH (c:Contract)(s:State)(bad:Bool)(kind party:Int)(action:aa)(h:iu c=true)(hc:c.Clauses.length≤1048576)(hs:s.Facts.length≤1048576):vS ⟨c,s,bad⟩ kind party action=some (KD c s kind party action):=by
 unfold vS KD
 refine MY (L:=sL ⟨c,s,bad⟩ kind party action) (i7 (a:=c.Clauses) (p:=fun x=>some (KE s kind party action x)) (fun _ _=>rfl) (fun x=>?_) (by omega))
 rw[NM,mB]
 cases he:aP c.Clauses x with
 | none=>rfl
 | some e=>
  simp only[Option.bind_some]
  have hh:AY ⟨c,s,bad⟩ x=some (qV e.When s.Facts s.Day):=by
   unfold AY
   simp only[he,Option.bind_some]
   rw[Tl (Nj h he) hs]
   rfl
  rw[hh]
  unfold KE
  cases e.Kind==kind<;>cases e.Party==party<;>cases e.Action==action<;>cases qV e.When s.Facts s.Day<;>rfl
theorem Ol (c:Contract)(s:State)(names:List aa)(t:List Entry)(bad:Bool)(kind party:Int)(action:aa)(h:iu c=true)(hc:c.Clauses.length≤1048576)(hs:s.Facts.length≤1048576):Hk ⟨c,s,names,t,bad⟩ kind party action=some (KD c s kind party action):=by
 unfold Hk Ga KD
 rw[MY (i7 (L:=sf c.Clauses (kind,party,action,⟨c,s,names,t,bad⟩)) (a:=c.Clauses) (p:=fun x=>yP x kind party action ⟨c,s,names,t,bad⟩) (q:=KE s kind party action) (fun x hx=>?_) (fun x=>by rw[NB,mj]) (by omega))]
 ·rfl
 ·unfold yP FZ
  rw[SP (Ww h hx) hs]
  unfold KE
  cases x.Kind==kind<;>cases x.Party==party<;>cases x.Action==action<;>cases qV x.When s.Facts s.Day<;>rfl
theorem Sr (c:Contract)(s:State)(party:Int)(action:aa)(hc:eO c)(hs:iL s)(ha:action.length≤1048576):∃b,AN c s party action=some b∧J2 c s party action=some b∧(b=true→iu c=true∧s.Over=false∧∃names,nT c=some names∧sN c=some names∧StF c s names):=by
 obtain⟨b,g1,g2,g3⟩:=abe c s hc hs
 unfold AN J2
 simp only[g1,g2,Option.bind_some,ls,jY,mO action ha,mI action ha]
 cases b with
 | false=>exact⟨false,rfl,rfl,by simp⟩
 | true=>
  obtain⟨h,names,n1,n2,f⟩:=g3 rfl
  cases ho:s.Over with
  | true=>exact⟨false,rfl,rfl,by simp⟩
  | false=>
   cases eo party 0 (az (len c.Parties - 1)) with
   | false=>exact⟨false,rfl,rfl,by simp⟩
   | true=>exact⟨fN action,rfl,rfl,fun _=>⟨h,rfl,names,n1,n2,f⟩⟩
theorem VR (c:Contract)(s:State)(party:Int)(action:aa)(hc:eO c)(hs:iL s)(ha:action.length≤1048576):∃r,Am c s party action=some r∧Ja c s party action=some r:=by
 obtain⟨b,g1,g2,g3⟩:=Sr c s party action hc hs ha
 unfold Am Ja
 rw[g1,g2,Option.bind_some,Option.bind_some]
 cases b with
 | false=>exact⟨_,rfl,rfl⟩
 | true=>
  obtain⟨h,_,names,n1,n2,f⟩:=g3 rfl
  simp only[Bool.not_true,cond_false,Yj c s hs n2,Option.bind_some]
  unfold Gl FY
  simp only[OH c s _ _ _ _ h hc.2.1 hs.2.1.1,Ol c s _ _ _ _ _ _ h hc.2.1 hs.2.1.1,Option.bind_some]
  cases decide (KD c s 3 party action≥0)<;>exact⟨_,rfl,rfl⟩
theorem ru (c:Contract)(hc:Ul c)(s:State)(hs:Bp s)(p:Int)(hp:mY p)(a:aa)(ha:wx a):eC c s p a=some true:=by
 unfold eC
 by_cases hal:a.length≤1048576
 ·rw[decide_eq_false (by unfold len;omega),cond_false]
  obtain⟨r1,e1,q1⟩:=Mt c hc (l:=1048576) (by decide) (by decide)
  rw[e1,Option.bind_some]
  rcases q1 with q1 | ⟨q1,p1,s1⟩
  ·rw[decide_eq_true q1,cond_true]
  rw[decide_eq_false (by omega),cond_false]
  obtain⟨r2,e2,q2⟩:=Wp s hs (l:=r1) (by omega) (by omega)
  rw[e2,Option.bind_some]
  rcases q2 with q2 | ⟨q2,p2,s2⟩
  ·rw[decide_eq_true q2,cond_true]
  rw[decide_eq_false (by omega),cond_false]
  obtain⟨r,g1,g2⟩:=VR c s p a s1 s2 hal
  simp only[Mu c s1,Wr s s2,Option.bind_some,g1,g2,Mh c s1,VM s s2,beq_self_eq_true,bne_self_eq_false,Bool.not_true,gm,cond_false]
 ·rw[decide_eq_true (by unfold len;omega),cond_true]
end Go.Ln
