/-
  The plain law.
-/
import Derived.Test.YtcfddlacocdpoaaGreatDoorFnExactIdlePermissionsLib
import Derived.Sort.AssemblyPlain
import Derived.Sort.LotD4
import Derived.Sort.LotD5
set_option linter.unusedVariables false
set_option linter.unusedSimpArgs false
set_option maxRecDepth 100000
namespace Go.Ln
open Go
theorem kO {α:Type}{b:Nat}{xs:List α}{y:α}(h:(xs.length+1)*b≤1099511627776)(h2:xs.length+1≤1099511627776):fy b xs [y]=some (xs++[y]):=by
 unfold fy
 rw[if_pos]
 simp only[List.length_cons,List.length_nil,lC,Nat.zero_add]
 omega
namespace StrL
theorem lt_irrefl:∀(a:ac),Op.bytesLess a a=false
 | []=>rfl
 | x::xs=>by
  have h:¬x<x:=by simp
  simp[Op.bytesLess,h,lt_irrefl xs]
theorem lt_trans:∀(a b c:ac),Op.bytesLess a b=true→Op.bytesLess b c=true→Op.bytesLess a c=true
 | _,[],_,h,_=>by simp[Op.bytesLess] at h
 | _,_::_,[],_,h=>by simp[Op.bytesLess] at h
 | [],_::_,_::_,_,_=>rfl
 | x::xs,y::ys,z::zs,h1,h2=>by
  simp only[Op.bytesLess,Bool.or_eq_true,decide_eq_true_eq,Bool.and_eq_true,beq_iff_eq] at h1 h2 ⊢
  rcases h1 with h1 | ⟨h1,h3⟩<;>rcases h2 with h2 | ⟨h2,h4⟩
  ·exact .inl (UInt8.lt_trans h1 h2)
  ·subst h2;exact .inl h1
  ·subst h1;exact .inl h2
  ·subst h1;subst h2;exact .inr ⟨rfl,lt_trans xs ys zs h3 h4⟩
def Lt (a b:ac):Prop:=Op.bytesLess a b=true
theorem tri (a b:ac):Lt a b∨a=b∨Lt b a:=by
 have:=Je a b
 unfold Lt
 cases h:Op.bytesLess a b
 ·cases h2:a==b
  ·rw[h,h2] at this;exact .inr (.inr this.symm)
  ·exact .inr (.inl (by simpa using h2))
 ·exact .inl rfl
theorem Lt.irrefl {a:ac}(h:Lt a a):False:=by unfold Lt at h;rw[lt_irrefl] at h;cases h
theorem Lt.trans {a b c:ac}(h:Lt a b)(h2:Lt b c):Lt a c:=lt_trans a b c h h2
theorem Lt.asymm {a b:ac}(h:Lt a b)(h2:Lt b a):False:=(h.trans h2).irrefl
def Le (a b:ac):Prop:=¬Lt b a
theorem Le.lt_or {a b:ac}(h:Le a b):Lt a b∨a=b:=by
 rcases tri a b with h1 | h1 | h1
 ·exact .inl h1
 ·exact .inr h1
 ·exact (h h1).elim
theorem Le.trans {a b c:ac}(h:Le a b)(h2:Le b c):Le a c:=by
 intro h3
 rcases h.lt_or with h4 | rfl
 ·rcases h2.lt_or with h5 | rfl
  ·exact (h4.trans h5).asymm h3
  ·exact h h3
 ·exact h2 h3
theorem Lt.le {a b:ac}(h:Lt a b):Le a b:=fun h2=>h.asymm h2
theorem Le.le_lt {a b c:ac}(h:Le a b)(h2:Lt b c):Lt a c:=by
 rcases h.lt_or with h3 | rfl
 ·exact h3.trans h2
 ·exact h2
end StrL
namespace StrL
def gh (a:List ac)(j:Nat):Bool:=match j with
 | 0=>true
 | j+1=>match a[j]?,a[j+1]? with
  | some x,some y=>y != x
  | _,_=>true
def dd (a:List ac):List ac:=kV (gh a) a a.length
theorem EX {a:List ac}{k:Nat}(h:∀j x y,j+1<k→a[j]?=some x→a[j+1]?=some y→y≠x)(hn:k≤a.length):kV (gh a) a k=a.take k:=by
 have e:∀n,n≤k→kV (gh a) a n=a.take n:=by
  intro n
  induction n with
  | zero=>intro _;rfl
  | succ n ih=>
   intro hk
   have h1:n<a.length:=by omega
   have hx:=List.getElem?_eq_getElem h1
   rw[An ?_ hx,ih (by omega),List.take_add_one,hx]
   ·rfl
   ·cases n with
    | zero=>rfl
    | succ n=>
     have h2:=List.getElem?_eq_getElem (show n<a.length by omega)
     simp only[gh,h2,hx]
     simpa using h n _ _ (by omega) h2 hx
 exact e k (Nat.le_refl k)
theorem Lg {s z:List ac}{x j:Nat}(h1:x≤j)(h2:j<s.length):tH z (0+Int.toNat (x:Int)) (Int.toNat (len s) - Int.toNat (x:Int)) ((j:Int) - (x:Int))=z[j]?:=by
 unfold tH
 simp only[len,Int.toNat_natCast,Nat.zero_add]
 rw[if_pos (by omega),show x+((j:Int) - (x:Int)).toNat=j by omega]
theorem IQ (s:List ac)(x:Nat)(hl:s.length≤1048576)(hx:x<s.length)(h0:kV (gh s) s (x+1)=s.take x):∃(i:Nat) (z:List ac),jP s (x:Int) ((x:Int),1,s)=some (.inr ((i:Int),z))∧z.length=s.length∧i≤z.length∧z.take i=dd s:=by
 have hD:=UG (L:=fun q:Int×Int×List ac=>jP s (x:Int) (q.1,q.2.1 - (x:Int),q.2.2)) (keep:=gh s) (a:=s) (i0:=x)
  (by
   intro i j z y hz hi hij hy hy2 hy3
   obtain⟨h1,_⟩:=List.getElem?_eq_some_iff.1 hy
   have h2:=List.getElem?_eq_getElem (show j - 1<s.length by omega)
   have h4:=List.getElem?_eq_getElem (show i<z.length by omega)
   show jP s (x:Int) ((i:Int),(j:Int) - (x:Int),z)=bif gh s j then jP s (x:Int) (((i+1:Nat):Int),((j+1:Nat):Int) - (x:Int),z.set i y) else jP s (x:Int) ((i:Int),((j+1:Nat):Int) - (x:Int),z)
   have w1:aj ((j:Int) - (x:Int) - 1)=((j - 1:Nat):Int) - (x:Int):=by rw[eH (by omega) (by omega)];omega
   have w2:aj ((j:Int) - (x:Int)+1)=((j+1:Nat):Int) - (x:Int):=by rw[eH (by omega) (by omega)];omega
   have c1:decide ((j:Int) - (x:Int)<(((Int.toNat (len s) - Int.toNat (x:Int)):Nat):Int))=true:=decide_eq_true (by simp only[len,Int.toNat_natCast];omega)
   rw[BF,kx]
   simp only[c1,cond_true,w1,w2,Lg (show x≤j by omega) h1,Lg (show x≤j - 1 by omega) (show j - 1<s.length by omega),hy2,hy3,h2,Option.bind_some,bM,om,h4,ce (show i<9223372036854775807 by omega)]
   have hk:gh s j=(y != s[j - 1]):=by
    cases j with
    | zero=>omega
    | succ j=>
     simp only[gh,hy,show j+1 - 1=j by omega] at h2 ⊢
     simp only[h2]
   rw[hk]
   show _=bif !(y==s[j - 1]) then _ else _
   cases y==s[j - 1]<;>rfl)
  (by
   intro i j z hz hi hij hj
   show jP s (x:Int) ((i:Int),(j:Int) - (x:Int),z)=_
   have c1:decide ((j:Int) - (x:Int)<(((Int.toNat (len s) - Int.toNat (x:Int)):Nat):Int))=false:=decide_eq_false (by simp only[len,Int.toNat_natCast];omega)
   rw[BF,kx]
   simp only[c1,cond_false])
  h0 hx
 simp only[show ((x+1:Nat):Int) - (x:Int)=1 by omega] at hD
 exact hD
theorem vQ (s:List ac)(hl:s.length≤1048576):∀(n k:Nat),k+n=s.length→1≤k→(∀j x y,j+1<k→s[j]?=some x→s[j+1]?=some y→y≠x)→∃y,pM s (k:Int)=some y∧(y=.inl (dd s)∨y=.inr (dd s))
 | 0,k,hk,h1,h=>by
  refine⟨.inr s,?_,.inr ?_⟩
  ·rw[BE,kw,bn,decide_eq_false (by omega),cond_false]
  ·unfold dd
   rw[EX (k:=s.length) (fun j x y hj=>h j x y (by omega)) (Nat.le_refl _),List.take_length]
 | n+1,k,hk,h1,h=>by
  have h2:k<s.length:=by omega
  have e1:=List.getElem?_eq_getElem h2
  have e2:=List.getElem?_eq_getElem (show k - 1<s.length by omega)
  have w1:aj ((k:Int) - 1)=((k - 1:Nat):Int):=by rw[eH (by omega) (by omega)];omega
  rw[BE,kw,bn,decide_eq_true h2,cond_true,w1,bM,bM,e1,e2,Option.bind_some,Option.bind_some,ce (by omega)]
  by_cases hq:s[k]=s[k - 1]
  ·rw[beq_iff_eq.2 hq,cond_true]
   have e3:gx s.length (k:Int) (len s)=some ():=by unfold gx;rw[if_pos (by simp only[len];omega)]
   have hno:gh s k=false:=by
    cases k with
    | zero=>omega
    | succ k=>
     simp only[show k+1 - 1=k by omega] at e2 hq
     simp only[gh,e1,e2,hq,bne_self_eq_false]
   obtain⟨i,z,e,hz,hi,ht⟩:=IQ s k hl h2 (by rw[E1 hno,EX h (by omega)])
   rw[e3,Option.bind_some,e,iC]
   refine⟨.inl (dd s),?_,.inl rfl⟩
   rw[←ht]
   exact XV (c:=([]:ac)) (F:=fun p19=>some (Sum.inl p19)) hi
  ·rw[beq_eq_false_iff_ne.2 hq,cond_false]
   refine vQ s hl n (k+1) (by omega) (by omega) fun j x y hj hx hy=>?_
   by_cases hj2:j+1<k
   ·exact h j x y hj2 hx hy
   ·obtain rfl:k=j+1:=by omega
    simp only[show j+1 - 1=j by omega] at e2 hq
    rw[e2] at hx
    rw[e1] at hy
    cases hx
    cases hy
    exact hq
theorem compact_val (s:List ac)(hl:s.length≤1048576):zn s=some (dd s):=by
 unfold zn
 by_cases h:len s<2
 ·rw[decide_eq_true h,cond_true]
  have h':s.length<2:=by simp only[len] at h;omega
  unfold dd
  rw[EX (k:=s.length) (fun j x y hj=>by omega) (Nat.le_refl _),List.take_length]
 ·rw[decide_eq_false h,cond_false]
  have h':¬s.length<2:=by simp only[len] at h;omega
  obtain⟨y,hy,hq⟩:=vQ s hl (s.length - 1) 1 (by omega) (Nat.le_refl _) (fun j x y hj=>by omega)
  rw[show pM s 1=some y from hy]
  rcases hq with rfl | rfl<;>rfl
end StrL
namespace StrL
theorem FI {a:List ac}(hs:a.Pairwise Le):∀n,n≤a.length→(kV (gh a) a n).Pairwise Lt∧∀x,x∈kV (gh a) a n↔x∈a.take n
 | 0,_=>by
  have e:kV (gh a) a 0=[]:=rfl
  rw[e]
  exact⟨List.Pairwise.nil,fun x=>by simp⟩
 | n+1,hn=>by
  obtain⟨h1,h2⟩:=FI hs n (by omega)
  have hlt:n<a.length:=by omega
  have hx:=List.getElem?_eq_getElem hlt
  have hle:∀y∈a.take n,Le y a[n]:=by
   intro y hy
   obtain⟨i,hi,rfl⟩:=List.mem_iff_getElem.1 hy
   rw[List.length_take] at hi
   rw[List.getElem_take]
   exact List.pairwise_iff_getElem.1 hs i n (by omega) hlt (by omega)
  cases hk:gh a n with
  | true=>
   rw[An hk hx]
   have hstrict:∀y∈a.take n,Lt y a[n]:=by
    intro y hy
    cases n with
    | zero=>simp at hy
    | succ j=>
     have h3:=List.getElem?_eq_getElem (show j<a.length by omega)
     have hne:a[j+1]≠a[j]:=by
      simp only[gh,h3,hx] at hk
      simpa using hk
     have hj:Le a[j] a[j+1]:=List.pairwise_iff_getElem.1 hs j (j+1) (by omega) hlt (by omega)
     obtain⟨i,hi,rfl⟩:=List.mem_iff_getElem.1 hy
     rw[List.length_take] at hi
     rw[List.getElem_take]
     have hlt2:Lt a[j] a[j+1]:=hj.lt_or.resolve_right fun e=>hne e.symm
     by_cases e:i=j
     ·subst e;exact hlt2
     ·have:=List.pairwise_iff_getElem.1 hs i j (by omega) (by omega) (by omega)
      exact this.le_lt hlt2
   refine⟨List.pairwise_append.2 ⟨h1,List.pairwise_singleton _ _,fun y hy z hz=>?_⟩,fun x=>?_⟩
   ·rw[List.mem_singleton] at hz
    subst hz
    exact hstrict y ((h2 y).1 hy)
   ·rw[List.take_add_one,hx,List.mem_append,List.mem_append,h2]
    rfl
  | false=>
   rw[E1 hk]
   refine⟨h1,fun x=>?_⟩
   rw[h2,List.take_add_one,hx,List.mem_append]
   constructor
   ·exact .inl
   ·rintro (h | h)
    ·exact h
    ·have e:x=a[n]:=by simpa using h
     subst e
     cases n with
     | zero=>simp[gh] at hk
     | succ j=>
      have h3:=List.getElem?_eq_getElem (show j<a.length by omega)
      simp only[gh,h3,hx] at hk
      have e:a[j+1]=a[j]:=by simpa using hk
      rw[e]
      have:a[j]∈a.take (j+1):=by
       rw[List.mem_iff_getElem]
       exact⟨j,by rw[List.length_take];omega,by rw[List.getElem_take]⟩
      exact this
theorem dd_ok {a:List ac}(hs:a.Pairwise Le):(dd a).Pairwise Lt∧∀x,x∈dd a↔x∈a:=by
 have:=FI hs a.length (Nat.le_refl _)
 rw[List.take_length] at this
 exact this
theorem asc_uniq:∀{a b:List ac},a.Pairwise Lt→b.Pairwise Lt→(∀x,x∈a↔x∈b)→a=b
 | [],[],_,_,_=>rfl
 | [],y::b,_,_,h=>absurd ((h y).2 (by simp)) (by simp)
 | x::a,[],_,_,h=>absurd ((h x).1 (by simp)) (by simp)
 | x::a,y::b,ha,hb,h=>by
  rw[List.pairwise_cons] at ha hb
  have e:x=y:=by
   have h1:=(h x).1 (by simp)
   have h2:=(h y).2 (by simp)
   rw[List.mem_cons] at h1 h2
   rcases h1 with h1 | h1
   ·exact h1
   ·rcases h2 with h2 | h2
    ·exact h2.symm
    ·exact ((ha.1 y h2).asymm (hb.1 x h1)).elim
  subst e
  rw[asc_uniq ha.2 hb.2 fun z=>?_]
  constructor
  ·intro hz
   have h1:=(h z).1 (List.mem_cons_of_mem _ hz)
   rcases List.mem_cons.1 h1 with e | h1
   ·subst e;exact (ha.1 z hz).irrefl.elim
   ·exact h1
  ·intro hz
   have h1:=(h z).2 (List.mem_cons_of_mem _ hz)
   rcases List.mem_cons.1 h1 with e | h1
   ·subst e;exact (hb.1 z hz).irrefl.elim
   ·exact h1
theorem qm {b:Nat}{xs ys:List ac}(h:(xs.length+ys.length)*b≤1099511627776)(h2:xs.length+ys.length≤1099511627776):fy b xs ys=some (xs++ys):=by
 unfold fy
 rw[if_pos]
 simp only[lC]
 omega
theorem qx (l:List ac)(n:ac)(m:Nat)(hm:m≤l.length)(hl:l.length≤1048576)(h1:∀(j:Nat) x,j<m→l[j]?=some x→Lt x n)(h2:∀x,l[m]?=some x→¬Lt x n):∀(k j:Nat),j+k=m→sv l n (j:Int)=some (.inr (n,(m:Int),l))
 | 0,j,hj=>by
  obtain rfl:j=m:=by omega
  rw[Ct,kF,bn]
  by_cases h:j<l.length
  ·rw[decide_eq_true h,cond_true,bM,List.getElem?_eq_getElem h,Option.bind_some,iC,show Op.bytesLess l[j] n=false from by simpa[Lt] using h2 _ (List.getElem?_eq_getElem h),cond_false]
  ·rw[decide_eq_false h,cond_false,iC,cond_false]
 | k+1,j,hj=>by
  have h:j<l.length:=by omega
  rw[Ct,kF,bn,decide_eq_true h,cond_true,bM,List.getElem?_eq_getElem h,Option.bind_some,iC,show Op.bytesLess l[j] n=true from h1 j _ (by omega) (List.getElem?_eq_getElem h),cond_true,ce (by omega)]
  exact qx l n m hm hl h1 h2 k (j+1) (by omega)
theorem put_val (l:List ac)(n:ac)(hl:l.length≤1000000)(hs:l.Pairwise Lt):∃r,vm l n=some r∧r.Pairwise Lt∧(∀x,x∈r↔x∈l∨x=n)∧r.length≤l.length+1:=by
 have key:∃m,m≤l.length∧(∀(j:Nat) x,j<m→l[j]?=some x→Lt x n)∧(∀x,l[m]?=some x→¬Lt x n):=by
  clear hl
  induction l with
  | nil=>exact⟨0,by simp,fun j x hj=>by omega,fun x hx=>by simp at hx⟩
  | cons y l ih=>
   by_cases hy:Lt y n
   ·obtain⟨m,h1,h2,h3⟩:=ih (List.pairwise_cons.1 hs).2
    refine⟨m+1,by simp;omega,fun j x hj hx=>?_,fun x hx=>h3 x (by simpa using hx)⟩
    cases j with
    | zero=>simp at hx;subst hx;exact hy
    | succ j=>exact h2 j x (by omega) (by simpa using hx)
   ·exact⟨0,by simp,fun j x hj=>by omega,fun x hx=>by simp at hx;subst hx;exact hy⟩
 obtain⟨m,hm,h1,h2⟩:=key
 have hlow:∀x∈l.take m,Lt x n:=by
  intro x hx
  obtain⟨i,hi,rfl⟩:=List.mem_iff_getElem.1 hx
  rw[List.length_take] at hi
  rw[List.getElem_take]
  exact h1 i _ (by omega) (List.getElem?_eq_getElem (by omega))
 have hloop:=qx l n m hm (by omega) h1 h2 m 0 (by omega)
 rw[show ((0:Nat):Int)=0 from rfl] at hloop
 unfold vm
 rw[hloop]
 simp only[ft,bn]
 have s1:gx l.length 0 (m:Int)=some ():=by unfold gx;rw[if_pos (by omega)]
 have s2:gx l.length (m:Int) (len l)=some ():=by unfold gx;rw[if_pos (by simp only[len];omega)]
 have p1:ga l (0+Int.toNat 0) (Int.toNat (m:Int) - Int.toNat 0)=some (l.take m):=by
  unfold ga
  simp only[Int.toNat_zero,Int.toNat_natCast,Nat.zero_add,Nat.sub_zero,List.drop_zero]
  rw[if_pos hm]
 have p2:ga l (0+Int.toNat (m:Int)) (Int.toNat (len l) - Int.toNat (m:Int))=some (l.drop m):=by
  unfold ga
  simp only[Int.toNat_natCast,Nat.zero_add,len]
  rw[if_pos (by omega),List.take_of_length_le (by rw[List.length_drop];omega)]
 have a1:fy 16 ([]:List ac) (l.take m)=some (l.take m):=by rw[qm (by simp only[List.length_nil,List.length_take];omega) (by simp only[List.length_nil,List.length_take];omega)];rfl
 have a2:fy 16 (l.take m) [n]=some (l.take m++[n]):=kO (by rw[List.length_take];omega) (by rw[List.length_take];omega)
 have a3:fy 16 (l.take m++[n]) (l.drop m)=some (l.take m++[n]++l.drop m):=qm (by simp only[List.length_append,List.length_take,List.length_drop,List.length_singleton];omega) (by simp only[List.length_append,List.length_take,List.length_drop,List.length_singleton];omega)
 have hins:(∀x∈l.drop m,Lt n x)→(l.take m++[n]++l.drop m).Pairwise Lt∧(∀x,x∈l.take m++[n]++l.drop m↔x∈l∨x=n)∧(l.take m++[n]++l.drop m).length≤l.length+1:=by
  intro hhi
  have hs2:=hs
  rw[←List.take_append_drop m l,List.pairwise_append] at hs2
  refine⟨List.pairwise_append.2 ⟨List.pairwise_append.2 ⟨hs2.1,List.pairwise_singleton _ _,fun x hx y hy=>?_⟩,hs2.2.1,fun x hx y hy=>?_⟩,fun x=>?_,?_⟩
  ·rw[List.mem_singleton] at hy;subst hy;exact hlow x hx
  ·rcases List.mem_append.1 hx with hx | hx
   ·exact hs2.2.2 x hx y hy
   ·rw[List.mem_singleton] at hx;subst hx;exact hhi y hy
  ·have:x∈l↔x∈l.take m∨x∈l.drop m:=by
    rw[←List.mem_append,List.take_append_drop]
   rw[List.mem_append,List.mem_append,List.mem_singleton,this]
   constructor
   ·rintro ((h | h) | h)
    ·exact .inl (.inl h)
    ·exact .inr h
    ·exact .inl (.inr h)
   ·rintro ((h | h) | h)
    ·exact .inl (.inl h)
    ·exact .inr h
    ·exact .inl (.inr h)
  ·simp only[List.length_append,List.length_take,List.length_drop,List.length_singleton];omega
 by_cases hb:m<l.length
 ·have hx:=List.getElem?_eq_getElem hb
  have hge:=h2 _ hx
  have hrest:∀x∈l.drop (m+1),Lt l[m] x:=by
   intro x hx
   obtain⟨i,hi,rfl⟩:=List.mem_iff_getElem.1 hx
   rw[List.length_drop] at hi
   rw[List.getElem_drop]
   exact List.pairwise_iff_getElem.1 hs m (m+1+i) hb (by omega) (by omega)
  rw[decide_eq_true hb,cond_true,bM,hx,Option.bind_some,ft,xb]
  by_cases he:l[m]=n
  ·rw[decide_eq_true he,cond_true]
   refine⟨l,rfl,hs,fun x=>⟨.inl,?_⟩,by omega⟩
   rintro (h | h)
   ·exact h
   ·rw[h,←he];exact List.getElem_mem hb
  ·rw[decide_eq_false he,cond_false]
   simp only[s1,p1,a1,a2,s2,p2,a3,Option.bind_some]
   refine⟨_,rfl,hins ?_⟩
   intro x hx
   rw[List.drop_eq_getElem_cons hb] at hx
   rcases List.mem_cons.1 hx with rfl | hx
   ·exact (tri n l[m]).resolve_right fun h=>h.elim (fun e=>he e.symm) hge
   ·have h1:Lt n l[m]:=(tri n l[m]).resolve_right fun h=>h.elim (fun e=>he e.symm) hge
    exact h1.trans (hrest x hx)
 ·rw[decide_eq_false hb,cond_false,ft,cond_false]
  simp only[s1,p1,a1,a2,s2,p2,a3,Option.bind_some]
  refine⟨_,rfl,hins ?_⟩
  intro x hx
  rw[List.drop_of_length_le (by omega)] at hx
  cases hx
end StrL
theorem xf {x y:ac}:decide (x≤y)=true↔StrL.Le x y:=by
 unfold StrL.Le StrL.Lt
 rw[Go.Proofs.bytesLess_eq,decide_eq_true_iff,decide_eq_true_iff]
 exact Iff.rfl
theorem S7 (l:List ac):(l.mergeSort fun x y=>decide (x≤y)).Pairwise StrL.Le:=by
 have h:=List.pairwise_mergeSort (le:=fun x y:ac=>decide (x≤y)) (fun x y z h1 h2=>by
  rw[xf] at *;exact h1.trans h2) (fun x y=>by
  rw[Bool.or_eq_true,xf,xf]
  rcases StrL.tri x y with h | h | h
  ·exact .inl h.le
  ·subst h;exact .inl fun h=>h.irrefl
  ·exact .inr h.le) l
 exact h.imp fun {x y} h=>xf.1 h
theorem K8 (l r:List ac)(hl:l.length≤1048576)(hr:r.Pairwise StrL.Lt)(hm:∀x,x∈r↔x∈l):Dp l=some r:=by
 unfold Dp sZ
 have hl2:(l.mergeSort fun (x y:ac)=>decide (x≤y)).length=l.length:=List.length_mergeSort _
 rw[Nat.ble_eq_true_of_le hl,cond_true,Option.bind_some,hl2,Nat.beq_refl,cond_true,StrL.compact_val _ (by rw[hl2];exact hl),Option.bind_some]
 obtain⟨h1,h2⟩:=StrL.dd_ok (S7 l)
 congr 1
 refine StrL.asc_uniq h1 hr fun x=>?_
 rw[h2,hm]
 exact (List.mergeSort_perm l _).mem_iff
theorem Af (b x:Bool):(bif b then x else false)=(b&&x):=by cases b<;>rfl
def gj (x a b:Int):Bool:=decide (x≥a)&&decide (x≤b)
theorem wY (x a b:Int):eN x a b=some (gj x a b):=by simp only[eN,fU,Af,gj]
theorem sN (x a b:Int):nI x a b=some (gj x a b):=by simp only[nI,fU,Af,gj]
def kg (c:UInt8):Bool:=(decide (97≤c.toNat)&&decide (c.toNat≤122))||(decide (48≤c.toNat)&&decide (c.toNat≤57))
theorem Qu (c:UInt8):vo (c.toNat:Int)=some (kg c):=by
 simp only[vo,kg,fU]
 by_cases h1:97≤c.toNat<;>by_cases h2:c.toNat≤122<;>by_cases h3:48≤c.toNat<;>by_cases h4:c.toNat≤57<;>simp[h1,h2,h3,h4,show ((97:Int)≤c.toNat)↔97≤c.toNat by omega,show ((c.toNat:Int)≤122)↔c.toNat≤122 by omega,show ((48:Int)≤c.toNat)↔48≤c.toNat by omega,show ((c.toNat:Int)≤57)↔c.toNat≤57 by omega]
def lB:List ac:=[[116,114,117,101],[102,114,111,109],[110,111,116],[97,110,100],[111,114],[98,111,116,104],[101,105,116,104,101,114],[105,116],[105,110]]
def iw (s:ac):Bool:=match s with
 | []=>false
 | c::r=>decide (r.length<8)&&decide (97≤c.toNat)&&decide (c.toNat≤122)&&s.all kg && !lB.contains s
theorem UF (b x:Bool):(bif b then b else x)=(b||x):=by cases b<;>rfl
theorem KK:zV [116,114,117,101,32,102,114,111,109,32,110,111,116,32,97,110,100,32,111,114,32,98,111,116,104,32,101,105,116,104,101,114,32,105,116,32,105,110] [32]=some lB:=by
 have h:wy [116,114,117,101,32,102,114,111,109,32,110,111,116,32,97,110,100,32,111,114,32,98,111,116,104,32,101,105,116,104,101,114,32,105,116,32,105,110] [32] 0 (-1) 9 ([116,114,117,101,32,102,114,111,109,32,110,111,116,32,97,110,100,32,111,114,32,98,111,116,104,32,101,105,116,104,101,114,32,105,116,32,105,110],0,List.replicate 9 [])=some (.inr ([105,110],8,[[116,114,117,101],[102,114,111,109],[110,111,116],[97,110,100],[111,114],[98,111,116,104],[101,105,116,104,101,114],[105,116],[]])):=
  (iP (fun a=>(xV _ _ _ _ _ a).1)).2 ⟨20,by decide +kernel⟩
 have e:zV [116,114,117,101,32,102,114,111,109,32,110,111,116,32,97,110,100,32,111,114,32,98,111,116,104,32,101,105,116,104,101,114,32,105,116,32,105,110] [32]=(bg (wy [116,114,117,101,32,102,114,111,109,32,110,111,116,32,97,110,100,32,111,114,32,98,111,116,104,32,101,105,116,104,101,114,32,105,116,32,105,110] [32] 0 (-1) 9 ([116,114,117,101,32,102,114,111,109,32,110,111,116,32,97,110,100,32,111,114,32,98,111,116,104,32,101,105,116,104,101,114,32,105,116,32,105,110],0,List.replicate 9 [])) fun u12:ac×Int×(List ac)=>(aK u12.2.2 u12.2.1).bind fun e13=>(gx (cT u12.2.2 u12.2.1 u12.1).length 0 (aj (u12.2.1+1))).bind fun s14=>(ga (cT u12.2.2 u12.2.1 u12.1) (0+Int.toNat (0)) (Int.toNat ((aj (u12.2.1+1))) - Int.toNat (0))).bind fun p15=>some p15).bind fun r=>some r:=by rfl
 rw[e,h]
 rfl
theorem EW (s:ac):nS lB s=some (lB.contains s):=by
 unfold nS uR
 rw[sL (L:=nT lB s) (a:=lB) (p:=fun e=>some (s==e)) (q:=fun e=>s==e) (fun _ _=>rfl) (fun x=>by rw[te,js]<;>rfl) (by decide)]
 cases h:lB.findIdx? (fun e=>s==e) with
 | none=>
  have:lB.contains s=false:=by
   rw[List.findIdx?_eq_none_iff] at h
   rw[Bool.eq_false_iff]
   intro hc
   rw[List.contains_iff_exists_mem_beq] at hc
   obtain⟨w,hw,he⟩:=hc
   rw[h w hw] at he
   cases he
  rw[this]
  rfl
 | some i=>
  have:lB.contains s=true:=by
   rw[List.findIdx?_eq_some_iff_getElem] at h
   obtain⟨hi,he,_⟩:=h
   rw[List.contains_iff_exists_mem_beq]
   exact⟨_,List.getElem_mem hi,he⟩
  rw[this]
  simp
theorem M2 (s:ac):(bif s==[116,114,117,101] then s==[116,114,117,101] else bif s==[102,114,111,109] then s==[102,114,111,109] else bif s==[110,111,116] then s==[110,111,116] else bif s==[97,110,100] then s==[97,110,100] else bif s==[111,114] then s==[111,114] else bif s==[98,111,116,104] then s==[98,111,116,104] else bif s==[101,105,116,104,101,114] then s==[101,105,116,104,101,114] else bif s==[105,116] then s==[105,116] else s==[105,110])=lB.contains s:=by
 simp only[UF,lB,List.contains_cons,List.contains_nil,Bool.or_false]
theorem qZ (s:ac)(hs:s.length≤1048576):rk s=some (iw s):=by
 unfold rk eN iw
 simp only[fU,Option.bind_some,M2]
 cases s with
 | nil=>rfl
 | cons c r=>
  have e1:decide (len (c::r)≥1)=true:=decide_eq_true (by simp[len];omega)
  have e2:decide (len (c::r)≤8)=decide (r.length<8):=by simp only[len,List.length_cons];congr 1;apply propext;omega
  have e3:aK (c::r) (0:Int)=some c:=rfl
  have e4:decide ((c.toNat:Int)<97)=!decide (97≤c.toNat):=by rw[←decide_not];congr 1;apply propext;omega
  have e5:decide ((c.toNat:Int)>122)=!decide (c.toNat≤122):=by rw[←decide_not];congr 1;apply propext;omega
  rw[e1,e2,e3,wI (r:=false) (L:=sr (c::r)) (a:=c::r) (p:=fun c=>(vo (c.toNat:Int)).bind fun r=>some (!r)) (q:=fun c=>!kg c) (fun x _=>by rw[Qu];rfl) (fun x=>by rw[LU,my];simp only[Option.bind_assoc,Option.bind_some]) (by omega)]
  simp only[cond_true,Option.bind_some,e4,e5]
  have e6:((c::r).any fun c=>!kg c)=!((c::r).all kg):=by rw[List.not_all_eq_any_not]
  rw[e6]
  cases decide (r.length<8)<;>cases decide (97≤c.toNat)<;>cases decide (c.toNat≤122)<;>cases (c::r).all kg<;>cases lB.contains (c::r)<;>rfl
theorem qS (s:ac)(hs:s.length≤1048576):vv s=some (iw s):=by
 unfold vv nI iw
 simp only[fU,Option.bind_some,KK,EW]
 cases s with
 | nil=>rfl
 | cons c r=>
  have e1:decide (len (c::r)≥1)=true:=decide_eq_true (by simp[len];omega)
  have e2:decide (len (c::r)≤8)=decide (r.length<8):=by simp only[len,List.length_cons];congr 1;apply propext;omega
  have e3:aK (c::r) (0:Int)=some c:=rfl
  have e4:decide ((c.toNat:Int)<97)=!decide (97≤c.toNat):=by rw[←decide_not];congr 1;apply propext;omega
  have e5:decide ((c.toNat:Int)>122)=!decide (c.toNat≤122):=by rw[←decide_not];congr 1;apply propext;omega
  have hp:∀c:UInt8,(bif decide ((c.toNat:Int)<97) then (bif decide ((c.toNat:Int)<48) then true else decide ((c.toNat:Int)>57)) else (bif decide ((c.toNat:Int)>122) then (bif decide ((c.toNat:Int)<48) then true else decide ((c.toNat:Int)>57)) else false))=!kg c:=by
   intro c
   have f1:decide ((c.toNat:Int)<97)=!decide (97≤c.toNat):=by rw[←decide_not];congr 1;apply propext;omega
   have f2:decide ((c.toNat:Int)>122)=!decide (c.toNat≤122):=by rw[←decide_not];congr 1;apply propext;omega
   have f3:decide ((c.toNat:Int)<48)=!decide (48≤c.toNat):=by rw[←decide_not];congr 1;apply propext;omega
   have f4:decide ((c.toNat:Int)>57)=!decide (c.toNat≤57):=by rw[←decide_not];congr 1;apply propext;omega
   rw[f1,f2,f3,f4]
   unfold kg
   by_cases g1:97≤c.toNat
   ·have g3:48≤c.toNat:=by omega
    have g4:¬c.toNat≤57:=by omega
    simp only[g1,g3,g4,decide_true,decide_false]
    cases decide (c.toNat≤122)<;>rfl
   ·simp only[g1,decide_false]
    cases decide (48≤c.toNat)<;>cases decide (c.toNat≤57)<;>rfl
  rw[e1,e2,e3,wI (r:=false) (L:=vw (c::r)) (a:=c::r) (p:=fun c=>some (!kg c)) (q:=fun c=>!kg c) (fun x _=>rfl) (fun x=>by rw[O8,nV];simp only[fU,hp,Option.bind_some]) (by omega)]
  simp only[cond_true,Option.bind_some,e4,e5]
  have e6:((c::r).any fun c=>!kg c)=!((c::r).all kg):=by rw[List.not_all_eq_any_not]
  rw[e6]
  cases decide (r.length<8)<;>cases decide (97≤c.toNat)<;>cases decide (c.toNat≤122)<;>cases (c::r).all kg<;>cases lB.contains (c::r)<;>rfl
theorem iE {ρ υ σ : Type}{L : Nat → σ → Option (ρ ⊕ υ)}(N : Nat)(J : Nat → σ → Prop)(T : ρ ⊕ υ → Prop)(hs : ∀ i s,i < N→J i s→(∃ s',J (i + 1) s' ∧ L i s=L (i + 1) s') ∨ ∃ y,T y ∧ L i s=some y)(he : ∀ s,J N s→∃ y,T y ∧ L N s=some y){s : σ}(h0 : J 0 s) : ∃ y,T y ∧ L 0 s=some y:=by
  have key : ∀ k i s,i + k=N→J i s→∃ y,T y ∧ L i s=some y:=by
    intro k
    induction k with
    | zero => intro i s hi hj; obtain rfl : i = N := by omega
              exact he s hj
    | succ k ih =>
      intro i s hi hj
      rcases hs i s (by omega) hj with ⟨s',h1,h2⟩ | h
      · rw [h2]; exact ih (i + 1) s' (by omega) h1
      · exact h
  exact key N 0 s (by omega) h0
theorem Us {α:Type}{L:Int→Option (Bool⊕Unit)}{a:List α}{f:α→Option Bool}{p:α→Bool}(hf:∀x∈a,f x=some (p x))(hL:∀x,L x=bif decide (x<len a) then (aK a x).bind fun e=>(f e).bind fun r=>bif !r then some (.inl false) else L (aj (x+1)) else some (.inr ()))(hb:a.length<9223372036854775807):L 0=some (if a.all p then .inr () else .inl false):=by
 obtain⟨y,h1,h2⟩:=iE (L:=fun i (_:Unit)=>L (i:Int)) a.length (fun i _=>(a.take i).all p=true) (fun y=>y=if a.all p then .inr () else .inl false) (s:=())
  (by
   intro i _ hi hj
   have hx:=List.getElem?_eq_getElem hi
   rw[show L (i:Int)=_ from hL _,bn,decide_eq_true hi,cond_true,bM,hx,Option.bind_some,hf _ (List.getElem_mem hi),Option.bind_some,ce (by omega)]
   cases hp:p a[i] with
   | true=>
    refine .inl ⟨(),?_,rfl⟩
    rw[List.take_add_one,hx,List.all_append,hj]
    simp[hp]
   | false=>
    refine .inr ⟨_,?_,rfl⟩
    rw[if_neg]
    intro h
    rw[List.all_eq_true] at h
    rw[h _ (List.getElem_mem hi)] at hp
    cases hp)
  (by
   intro _ hj
   refine⟨_,rfl,?_⟩
   rw[List.take_length] at hj
   rw[show L (a.length:Int)=_ from hL _,bn,decide_eq_false (by omega),cond_false,if_pos hj]) (by simp)
 rw[show L 0=some y from h2,h1]
theorem l8 {ρ υ α:Type}{q:α→Bool}{y0 y1:ρ⊕υ}:∀{a:List α} {L:Nat→Option (ρ⊕υ)},(∀(i:Nat) x,a[i]?=some x→L i=bif q x then some y0 else L (i+1))→L a.length=some y1→L 0=some (if a.any q then y0 else y1)
 | [],L,_,he=>by simpa using he
 | x::a,L,hL,he=>by
  rw[hL 0 x rfl,l8 (a:=a) (L:=fun i=>L (i+1)) (y0:=y0) (y1:=y1) (fun i z hz=>hL (i+1) z (by simpa using hz)) (by simpa using he),List.any_cons]
  cases q x<;>rfl
def pA (c:Condition):Bool:=
 if c.Op=1 then decide (c.Parts.length=0)&&(decide (c.Name=[])&&decide (c.Day=0))
 else if c.Op=2 then decide (c.Parts.length=0)&&(iw c.Name&&decide (c.Day=0))
 else if c.Op=3 then decide (c.Parts.length=0)&&(decide (c.Name=[])&&gj c.Day 0 36524)
 else if c.Op=4 then decide (c.Parts.length=1)&&(decide (c.Name=[])&&decide (c.Day=0))
 else if c.Op=5∨c.Op=6 then decide (c.Parts.length=2)&&(decide (c.Name=[])&&decide (c.Day=0))
 else false
mutual
def d3:Condition→Bool
 | ⟨a0,a1,a2,a3⟩=>pA ⟨a0,a1,a2,a3⟩&&wO a3
def wO:List Condition→Bool
 | []=>true
 | x::xs=>d3 x&&wO xs
end
theorem yi:∀a,wO a=a.all d3
 | []=>rfl
 | x::xs=>by simp[wO,yi xs]
theorem oX (c:Condition):d3 c=(pA c&&c.Parts.all d3):=by cases c;simp only[d3,yi]
theorem wQ {α:Type}{a:List α}{n:Nat}:(len a==(n:Int))=decide (a.length=n):=by
 rw[mH]
 by_cases h:a.length=n
 ·rw[decide_eq_true h,decide_eq_true];simp only[len];omega
 ·rw[decide_eq_false h,decide_eq_false];simp only[len];omega
theorem Qt (c:Condition)(hn:c.Name.length≤1048576):zD c=some (pA c):=by
 have l0:(len c.Parts==0)=decide (c.Parts.length=0):=wQ (n:=0)
 have l1:(len c.Parts==1)=decide (c.Parts.length=1):=wQ (n:=1)
 have l2:(len c.Parts==2)=decide (c.Parts.length=2):=wQ (n:=2)
 unfold zD pA
 simp only[fU,qZ _ hn,Option.bind_some,Ew,wY,l0,l1,l2,xb,mH,Af]
 by_cases o1:c.Op=1
 ·simp only[o1,decide_true,cond_true,if_true]
 by_cases o2:c.Op=2
 ·rw[decide_eq_false o1,decide_eq_true o2,cond_false,cond_true,if_neg o1,if_pos o2]
  cases decide (c.Parts.length=0)<;>rfl
 by_cases o3:c.Op=3
 ·rw[decide_eq_false o1,decide_eq_false o2,decide_eq_true o3,cond_false,cond_false,cond_true,if_neg o1,if_neg o2,if_pos o3]
  cases decide (c.Parts.length=0)<;>cases decide (c.Name=[])<;>rfl
 by_cases o4:c.Op=4
 ·rw[decide_eq_false o1,decide_eq_false o2,decide_eq_false o3,decide_eq_true o4,if_neg o1,if_neg o2,if_neg o3,if_pos o4]
  rfl
 rw[decide_eq_false o1,decide_eq_false o2,decide_eq_false o3,decide_eq_false o4,if_neg o1,if_neg o2,if_neg o3,if_neg o4]
 by_cases o5:c.Op=5
 ·simp only[o5,decide_true,cond_true,cond_false,true_or,if_true]
 ·by_cases o6:c.Op=6
  ·rw[if_pos (.inr o6),decide_eq_false o5,decide_eq_true o6];rfl
  ·rw[if_neg (by omega),decide_eq_false o5,decide_eq_false o6];rfl
theorem M1 (c:Condition):bW c→Ex c=some (d3 c):=by
 refine ep (P:=fun c=>bW c→Ex c=some (d3 c)) ?_ c
 intro c ih hc
 rw[fF] at hc
 rw[TU]
 unfold sk
 rw[Qt c hc.2.1,Option.bind_some,oX]
 cases pA c with
 | false=>rfl
 | true=>
  have hl:c.Parts.length≤1048576:=hc.2.2.2.1.1
  simp only[Bool.not_true,cond_false,Bool.true_and]
  rw[Us (L:=pO (aA pZ) c) (a:=c.Parts) (f:=fun e=>Ex e) (p:=d3) (fun x hx=>ih x hx (hc.2.2.2.1.2 x hx)) (fun x=>by rw[LT,kB]<;>rfl) (by omega)]
  cases c.Parts.all d3<;>rfl
theorem mJ (a:List Condition)(i:Nat)(h:i<a.length):aB (a.take (i+1))=aB (a.take i)+aH a[i]:=by
 have app:∀(x y:List Condition),aB (x++y)=aB x+aB y:=by
  intro x y
  induction x with
  | nil=>simp[aB]
  | cons z x ih=>simp only[List.cons_append,aB,ih];omega
 rw[List.take_add_one,List.getElem?_eq_getElem h,app]
 simp[aB]
theorem iI (a:List Condition)(i:Nat):aB (a.take i)≤aB a:=by
 have app:∀(x y:List Condition),aB (x++y)=aB x+aB y:=by
  intro x y
  induction x with
  | nil=>simp[aB]
  | cons z x ih=>simp only[List.cons_append,aB,ih];omega
 have:=app (a.take i) (a.drop i)
 rw[List.take_append_drop] at this
 omega
theorem WL {a:List Condition}{i:Nat}(h:i<a.length):aH a[i]≤aB a:=by
 have h1:=mJ a i h
 have h2:=iI a (i+1)
 omega
theorem Qv (c:Condition):aH c≤2000000→H4 c=some ((aH c:Nat):Int):=by
 refine ep (P:=fun c=>aH c≤2000000→H4 c=some ((aH c:Nat):Int)) ?_ c
 intro c ih hc
 have hc':=ed c
 have hcs:=eW c.Parts
 rw[TV]
 unfold sx
 obtain⟨y,h1,h2⟩:=iE (L:=fun i (s:Int)=>lh (aA kG) c (s,(i:Int))) c.Parts.length (fun i s=>s=((1+aB (c.Parts.take i):Nat):Int)) (fun y=>y=.inr ((aH c:Nat):Int)) (s:=1)
  (by
   intro i s hi hj
   have hx:=List.getElem?_eq_getElem hi
   have h3:=mJ c.Parts i hi
   have h4:=iI c.Parts (i+1)
   refine .inl ⟨((1+aB (c.Parts.take (i+1)):Nat):Int),rfl,?_⟩
   show lh (aA kG) c (s,(i:Int))=_
   rw[Cx,jt]
   simp only[bn,decide_eq_true hi,cond_true,bM,hx,Option.bind_some]
   rw[show aA kG c.Parts[i]=some ((aH c.Parts[i]:Nat):Int) from ih _ (List.getElem_mem hi) (by omega),Option.bind_some,ce (by omega),hj,eH (by omega) (by omega)]
   congr 2
   omega)
  (by
   intro s hj
   refine⟨_,rfl,?_⟩
   rw[List.take_length] at hj
   show lh (aA kG) c (s,(c.Parts.length:Int))=_
   rw[Cx,jt]
   simp only[bn,decide_eq_false (Nat.lt_irrefl _),cond_false]
   rw[hj,hc']) (by simp[aB])
 rw[show lh (aA kG) c (1,0)=some y from h2,h1]
 rfl
def ox (c:Condition):Bool:=d3 c&&decide (aH c≤15)
theorem XM {c:Condition}(h:bW c):aH c≤1048577:=by
 rw[fF] at h
 rw[ed]
 omega
theorem Qs (c:Condition)(h:bW c):zG c=some (ox c):=by
 unfold zG ox
 rw[M1 c h,Option.bind_some]
 cases d3 c with
 | false=>rfl
 | true=>
  have:=XM h
  simp only[cond_true,Bool.true_and]
  rw[Qv c (by omega),Option.bind_some,ft]
  congr 1
  by_cases h:aH c≤15
  ·rw[decide_eq_true h,decide_eq_true (by omega)]
  ·rw[decide_eq_false h,decide_eq_false (by omega)]
def JO (op:Int):Nat:=if op=4 then 1 else if op=5∨op=6 then 2 else 0
def Av (c:Condition):Bool:=gj c.Op 1 6&&decide (c.Parts.length=JO c.Op)
def D7 (c:Condition):Bool:=((c.Op==2) == !(c.Name==([]:ac)))&&((if c.Op=2 then iw c.Name else true)&&((if c.Op=3 then true else decide (c.Day=0))&&gj c.Day 0 36524))
theorem pU {x a b:Int}:gj x a b=true↔a≤x∧x≤b:=by simp[gj]
theorem PX (c:Condition):((nI c.Op 1 6).bind fun r20=>ct (ρ:=Int) (bif (!r20) then (some (.inr true)) else ((aK [(-1),0,0,0,1,2,2] c.Op).bind fun e22=>some (.inr ((len c.Parts) != e22)))) fun u21:Bool=>(some (.inr u21):Option (Int⊕Bool)))=some (.inr (!Av c)):=by
 rw[sN,Option.bind_some]
 unfold Av
 cases h:gj c.Op 1 6 with
 | false=>rfl
 | true=>
  rw[pU] at h
  have ho:c.Op=1∨c.Op=2∨c.Op=3∨c.Op=4∨c.Op=5∨c.Op=6:=by omega
  have key:aK [(-1),0,0,0,1,2,2] c.Op=some ((JO c.Op:Nat):Int):=by rcases ho with h | h | h | h | h | h<;>rw[h]<;>rfl
  simp only[Bool.not_true,cond_false,key,Option.bind_some,iC,Bool.true_and,bne,wQ]
theorem PY (c:Condition)(hn:c.Name.length≤1048576):(bif (!((c.Op==2)==(!(c.Name==([]:ac))))) then (some (.inr true)) else (ct (ρ:=Int) (bif (c.Op==2) then ((vv c.Name).bind fun r10=>ct (ρ:=Int) (bif (!r10) then (some (.inr true)) else (ct (ρ:=Int) (bif (c.Op != 3) then (ct (ρ:=Int) (bif (c.Day != 0) then (some (.inr true)) else ((sG c.Day).bind fun r14=>some (.inr (!r14)))) fun u13:Bool=>some (.inr u13)) else ((sG c.Day).bind fun r15=>some (.inr (!r15)))) fun u12:Bool=>some (.inr u12))) fun u11:Bool=>some (.inr u11)) else (ct (ρ:=Int) (bif (c.Op != 3) then (ct (ρ:=Int) (bif (c.Day != 0) then (some (.inr true)) else ((sG c.Day).bind fun r18=>some (.inr (!r18)))) fun u17:Bool=>some (.inr u17)) else ((sG c.Day).bind fun r19=>some (.inr (!r19)))) fun u16:Bool=>some (.inr u16))) fun u9:Bool=>(some (.inr u9):Option (Int⊕Bool))))=some (.inr (!D7 c)):=by
 unfold D7
 simp only[qS _ hn,sG,sN,Option.bind_some,UW]
 cases ((c.Op==2) == !(c.Name==([]:ac))) with
 | false=>rfl
 | true=>
  simp only[Bool.not_true,cond_false,Bool.true_and]
  by_cases o2:c.Op=2
  ·simp only[o2,if_true,show ((2:Int)==2)=true from rfl,cond_true,show ¬(2:Int)=3 by omega,if_false,decide_false,Bool.not_false]
   cases iw c.Name<;>by_cases hd:c.Day=0<;>simp[hd]
  ·have:(c.Op==2)=false:=beq_eq_false_iff_ne.2 o2
   rw[this,cond_false,if_neg o2]
   by_cases o3:c.Op=3
   ·simp[o3]
   ·by_cases hd:c.Day=0<;>simp[o3,hd]
theorem tG (c:Condition):pA c=(Av c&&D7 c):=by
 have name0:c.Name=[]→iw c.Name=false:=fun h=>by rw[h];rfl
 have d0:c.Day=0→gj c.Day 0 36524=true:=fun h=>by rw[h];rfl
 have in1:gj c.Op 1 6=decide (1≤c.Op∧c.Op≤6):=by rw[Bool.eq_iff_iff,pU,decide_eq_true_iff]
 unfold pA Av D7
 rw[in1,show JO c.Op=if c.Op=4 then 1 else if c.Op=5∨c.Op=6 then 2 else 0 from rfl]
 by_cases hn:c.Name=[]
 ·by_cases hd:c.Day=0
  ·by_cases o1:c.Op=1
   ·simp[o1,hn,hd,gj]
   by_cases o2:c.Op=2
   ·simp[o2,hn,hd,iw]
   by_cases o3:c.Op=3
   ·simp[o3,hn,hd,gj]
   by_cases o4:c.Op=4
   ·simp[o4,hn,hd,gj]
   by_cases o5:c.Op=5
   ·simp[o5,hn,hd,gj]
   by_cases o6:c.Op=6
   ·simp[o6,hn,hd,gj]
   have:¬(1≤c.Op∧c.Op≤6):=by omega
   simp[o1,o2,o3,o4,o5,o6,decide_eq_false this]
  ·by_cases o3:c.Op=3
   ·simp[o3,hn]
   ·by_cases o2:c.Op=2<;>simp[o2,o3,hd]
 ·have hb:(c.Name==([]:ac))=false:=beq_eq_false_iff_ne.2 hn
  by_cases o2:c.Op=2
  ·by_cases hd:c.Day=0<;>simp[o2,hn,hd,gj,hb]
  ·simp[o2,hn,hb]
theorem ML (c:Condition):bW c→∀so:Nat,so≤15→Pq c (so:Int)=some (if d3 c=true∧so+aH c≤15 then ((so+aH c:Nat):Int) else -1):=by
 refine ep (P:=fun c=>bW c→∀so:Nat,so≤15→Pq c (so:Int)=some (if d3 c=true∧so+aH c≤15 then ((so+aH c:Nat):Int) else -1)) ?_ c
 intro c ih hc so hso
 rw[fF] at hc
 have hnc:=ed c
 rw[Wp]
 unfold wC
 rw[PX,PY c hc.2.1,ce (by omega),oX,tG]
 by_cases h15:so+1≤15
 ·rw[decide_eq_false (by omega),cond_false]
  cases Av c with
  | false=>rfl
  | true=>
  cases D7 c with
  | false=>rfl
  | true=>
   simp only[Bool.not_true,ft,cond_false,Bool.true_and]
   obtain⟨y,h1,h2⟩:=iE (L:=fun i (s:Int)=>lI (aA lP) c (so:Int) (s,(i:Int))) c.Parts.length
    (fun i s=>s=((so+1+aB (c.Parts.take i):Nat):Int)∧so+1+aB (c.Parts.take i)≤15∧(c.Parts.take i).all d3=true)
    (fun y=>y=if c.Parts.all d3=true∧so+aH c≤15 then .inr ((so+aH c:Nat):Int) else .inl (-1)) (s:=((so+1:Nat):Int))
    (by
     rintro i s hi ⟨hj,hj2,hj3⟩
     have hx:=List.getElem?_eq_getElem hi
     have h3:=mJ c.Parts i hi
     have h4:=iI c.Parts (i+1)
     have h5:=ih _ (List.getElem_mem hi) (hc.2.2.2.1.2 _ (List.getElem_mem hi)) (so+1+aB (c.Parts.take i)) hj2
     show (∃s',_∧lI (aA lP) c (so:Int) (s,(i:Int))=_)∨∃y,_∧lI (aA lP) c (so:Int) (s,(i:Int))=_
     rw[Fx,kN]
     simp only[bn,decide_eq_true hi,cond_true,bM,hx,Option.bind_some,hj]
     rw[show aA lP (c.Parts[i],((so+1+aB (c.Parts.take i):Nat):Int))=_ from h5,Option.bind_some,ce (by have:=hc.2.2.2.1.1;omega)]
     by_cases hq:d3 c.Parts[i]=true∧so+1+aB (c.Parts.take i)+aH c.Parts[i]≤15
     ·rw[if_pos hq,decide_eq_false (by omega),cond_false]
      refine .inl ⟨_,⟨?_,?_,?_⟩,rfl⟩
      ·congr 1;omega
      ·omega
      ·rw[List.take_add_one,hx,List.all_append,hj3];simp[hq.1]
     ·rw[if_neg hq,decide_eq_true (by omega),cond_true]
      refine .inr ⟨_,?_,rfl⟩
      rw[if_neg]
      rintro⟨h6,h7⟩
      rw[List.all_eq_true] at h6
      exact hq ⟨h6 _ (List.getElem_mem hi),by omega⟩)
    (by
     rintro s ⟨hj,hj2,hj3⟩
     rw[List.take_length] at *
     show ∃y,_∧lI (aA lP) c (so:Int) (s,(c.Parts.length:Int))=_
     rw[Fx,kN]
     simp only[bn,decide_eq_false (Nat.lt_irrefl _),cond_false]
     refine⟨_,?_,rfl⟩
     rw[if_pos ⟨hj3,by omega⟩,hj]
     congr 2;omega) ⟨by simp[aB],by simp[aB];omega,by simp⟩
   rw[show lI (aA lP) c (so:Int) (((so+1:Nat):Int),0)=some y from h2,h1]
   by_cases hq:c.Parts.all d3=true∧so+aH c≤15
   ·rw[if_pos hq,if_pos hq];rfl
   ·rw[if_neg hq,if_neg hq];rfl
 ·rw[decide_eq_true (by omega),cond_true,ft,cond_true,if_neg (by omega)]
theorem PW (c:Condition)(h:bW c):Ht c=some (ox c):=by
 unfold Ht ox
 rw[show (0:Int)=((0:Nat):Int) from rfl,ML c h 0 (by omega),Option.bind_some]
 have:=ed c
 congr 1
 cases d3 c with
 | false=>rfl
 | true=>
  by_cases h:aH c≤15
  ·rw[if_pos ⟨rfl,by omega⟩,decide_eq_true (by omega),decide_eq_true h];rfl
  ·rw[if_neg (by omega),decide_eq_false h];rfl
mutual
def il:Condition→List ac
 | ⟨op,name,_,parts⟩=>(if op=2 then [name] else [])++eK parts
def eK:List Condition→List ac
 | []=>[]
 | x::xs=>il x++eK xs
end
theorem FV (c:Condition):il c=(if c.Op=2 then [c.Name] else [])++eK c.Parts:=by cases c;simp only[il]
theorem yo:∀(a b:List Condition),eK (a++b)=eK a++eK b
 | [],b=>rfl
 | x::a,b=>by simp only[List.cons_append,eK,yo a b,List.append_assoc]
theorem vZ (a:List Condition)(i:Nat)(h:i<a.length):eK (a.take (i+1))=eK (a.take i)++il a[i]:=by
 rw[List.take_add_one,List.getElem?_eq_getElem h,yo]
 simp[eK]
mutual
theorem ny:∀c,(il c).length≤aH c
 | ⟨op,name,day,parts⟩=>by
  have:=ry parts
  simp only[il,aH,List.length_append]
  split<;>simp<;>omega
theorem ry:∀a,(eK a).length≤aB a
 | []=>by simp[eK]
 | x::a=>by
  have h1:=ny x
  have h2:=ry a
  simp only[eK,aB,List.length_append]
  omega
end
theorem tL (c:Condition):∀l:List ac,l.length+aH c≤1000000→Ii c l=some (l++il c):=by
 refine ep (P:=fun c=>∀l:List ac,l.length+aH c≤1000000→Ii c l=some (l++il c)) ?_ c
 intro c ih l hl
 have hnc:=ed c
 have hpl:=eW c.Parts
 rw[Wo]
 unfold wA
 have h0:(bif (c.Op==2) then ((fy 16 l [c.Name]).bind fun a8=>some (.inr a8)) else (some (.inr l)):Option (List ac⊕List ac))=some (.inr (l++if c.Op=2 then [c.Name] else [])):=by
  rw[mH]
  by_cases h:c.Op=2
  ·rw[decide_eq_true h,cond_true,kO (by omega) (by omega),if_pos h];rfl
  ·rw[decide_eq_false h,cond_false,if_neg h,List.append_nil]
 rw[h0,ft]
 have hlen:(l++if c.Op=2 then [c.Name] else []).length≤l.length+1:=by
  rw[List.length_append];split<;>simp
 rw[FV,←List.append_assoc]
 generalize (l++if c.Op=2 then [c.Name] else [])=l1 at hlen ⊢
 obtain⟨y,h1,h2⟩:=iE (L:=fun i (s:List ac)=>mV (aA mU) c l ((i:Int),s)) c.Parts.length (fun i s=>s=l1++eK (c.Parts.take i)) (fun y=>y=.inr (l1++eK c.Parts)) (s:=l1)
  (by
   intro i s hi hj
   have hx:=List.getElem?_eq_getElem hi
   have h3:=mJ c.Parts i hi
   have h4:=iI c.Parts (i+1)
   have h5:=ry (c.Parts.take i)
   refine .inl ⟨l1++eK (c.Parts.take (i+1)),rfl,?_⟩
   show mV (aA mU) c l ((i:Int),s)=_
   rw[Ft,kM]
   simp only[bn,decide_eq_true hi,cond_true,bM,hx,Option.bind_some]
   rw[show aA mU (c.Parts[i],s)=_ from ih _ (List.getElem_mem hi) s (by rw[hj,List.length_append];omega),Option.bind_some,ce (by omega),hj,vZ _ _ hi,List.append_assoc])
  (by
   intro s hj
   refine⟨_,rfl,?_⟩
   rw[List.take_length] at hj
   show mV (aA mU) c l ((c.Parts.length:Int),s)=_
   rw[Ft,kM]
   simp only[bn,decide_eq_false (Nat.lt_irrefl _),cond_false]
   rw[hj]) (by simp[eK])
 rw[show mV (aA mU) c l (0,l1)=some y from h2,h1]
 rfl
theorem DL {c:Condition}(h:pA c=true)(ho:c.Op=2∨c.Op=3):c.Parts=[]:=by
 rw[tG,Av,JO] at h
 rw[Bool.and_eq_true,Bool.and_eq_true,decide_eq_true_iff] at h
 have:=h.1.2
 rw[if_neg (by omega),if_neg (by omega)] at this
 exact List.length_eq_zero_iff.1 this
theorem ug (c:Condition):d3 c=true→∀l:List ac,l.length+aH c≤1000000→l.Pairwise StrL.Lt→∃r,qc l c=some r∧r.Pairwise StrL.Lt∧(∀x,x∈r↔x∈l∨x∈il c)∧r.length≤l.length+aH c:=by
 refine ep (P:=fun c=>d3 c=true→∀l:List ac,l.length+aH c≤1000000→l.Pairwise StrL.Lt→∃r,qc l c=some r∧r.Pairwise StrL.Lt∧(∀x,x∈r↔x∈l∨x∈il c)∧r.length≤l.length+aH c) ?_ c
 intro c ih hf l hl hs
 have hnc:=ed c
 have hpl:=eW c.Parts
 rw[oX,Bool.and_eq_true,List.all_eq_true] at hf
 rw[K1]
 unfold ss
 rw[mH,FV]
 by_cases ho:c.Op=2
 ·obtain⟨r,e,r1,r2,r3⟩:=StrL.put_val l c.Name (by omega) hs
  rw[decide_eq_true ho,cond_true,e,if_pos ho,DL hf.1 (.inl ho)]
  exact⟨r,rfl,r1,fun x=>by rw[r2];simp[eK],by omega⟩
 rw[decide_eq_false ho,cond_false,if_neg ho,List.nil_append]
 obtain⟨y,h1,h2⟩:=iE (L:=fun i (s:List ac)=>i9 (aA ib) l c ((i:Int),s)) c.Parts.length
  (fun i s=>s.Pairwise StrL.Lt∧(∀x,x∈s↔x∈l∨x∈eK (c.Parts.take i))∧s.length≤l.length+aB (c.Parts.take i))
  (fun y=>∃r,y=.inr r∧r.Pairwise StrL.Lt∧(∀x,x∈r↔x∈l∨x∈eK c.Parts)∧r.length≤l.length+aH c) (s:=l)
  (by
   rintro i s hi ⟨j1,j2,j3⟩
   have hx:=List.getElem?_eq_getElem hi
   have h3:=mJ c.Parts i hi
   have h4:=iI c.Parts (i+1)
   obtain⟨r,e,r1,r2,r3⟩:=ih _ (List.getElem_mem hi) (hf.2 _ (List.getElem_mem hi)) s (by omega) j1
   refine .inl ⟨r,⟨r1,fun x=>?_,by omega⟩,?_⟩
   ·rw[r2,j2,vZ _ _ hi,List.mem_append,or_assoc]
   show i9 (aA ib) l c ((i:Int),s)=_
   rw[pr,iz]
   simp only[bn,decide_eq_true hi,cond_true,bM,hx,Option.bind_some]
   rw[show aA ib (s,c.Parts[i])=_ from e,Option.bind_some,ce (by omega)])
  (by
   rintro s ⟨j1,j2,j3⟩
   rw[List.take_length] at *
   refine⟨.inr s,⟨s,rfl,j1,j2,by omega⟩,?_⟩
   show i9 (aA ib) l c ((c.Parts.length:Int),s)=_
   rw[pr,iz]
   simp only[bn,decide_eq_false (Nat.lt_irrefl _),cond_false]) ⟨hs,fun x=>by simp[eK],by simp[aB]⟩
 obtain⟨r,rfl,hr⟩:=h1
 rw[show i9 (aA ib) l c (0,l)=some (.inr r) from h2]
 exact⟨r,rfl,hr⟩
theorem IR (l:List ac)(s:ac)(hl:l.length≤1048576):nS l s=some (l.contains s):=by
 unfold nS uR
 rw[sL (L:=nT l s) (a:=l) (p:=fun e=>some (s==e)) (q:=fun e=>s==e) (fun _ _=>rfl) (fun x=>by rw[te,js]<;>rfl) (by omega)]
 cases h:l.findIdx? (fun e=>s==e) with
 | none=>
  have:l.contains s=false:=by
   rw[List.findIdx?_eq_none_iff] at h
   rw[Bool.eq_false_iff]
   intro hc
   rw[List.contains_iff_exists_mem_beq] at hc
   obtain⟨w,hw,he⟩:=hc
   rw[h w hw] at he
   cases he
  rw[this]
  rfl
 | some i=>
  have:l.contains s=true:=by
   rw[List.findIdx?_eq_some_iff_getElem] at h
   obtain⟨hi,he,_⟩:=h
   rw[List.contains_iff_exists_mem_beq]
   exact⟨_,List.getElem_mem hi,he⟩
  rw[this]
  simp
theorem Sg (a b:ac):(a==b)=(b==a):=by
 rw[xb,xb]
 by_cases h:a=b
 ·simp[h]
 ·simp[h,Ne.symm h]
theorem UU (l:List ac)(s:ac)(hl:l.length≤1048576):rj l s=some (l.contains s):=by
 unfold rj
 rw[wI (L:=pP l s) (a:=l) (p:=fun e=>some (e==s)) (q:=fun e=>e==s) (r:=true) (fun _ _=>rfl) (fun x=>by rw[Ce,kC]<;>rfl) (by omega)]
 have:(l.any fun e=>e==s)=l.contains s:=by
  rw[List.contains_eq_any_beq]
  congr 1
  funext e
  exact Sg e s
 rw[this]
 cases l.contains s<;>rfl
def Sf (l:List ac)(k:Nat):Bool:=match l[k]? with
 | some e=>!iw e||(l.take k).contains e
 | none=>false
def wd (l:List ac):Nat→Nat→Bool
 | 0,_=>true
 | n+1,k=>!Sf l k&&wd l n (k+1)
theorem JM {α:Type}{l:List α}{k:Nat}(h:k≤l.length):qC l 0 (k:Int)=some (l.take k):=by
 unfold qC
 rw[if_pos (by omega)]
 simp
theorem yB (l:List ac)(cs:List Clause)(hl:lD qB l):∀(n k:Nat),k+n=l.length→sE ⟨l,cs⟩ (k:Int)=some (bif wd l n k then .inr () else .inl false)
 | 0,k,hk=>by
  have h1:=hl.1
  rw[CT,kK]
  simp only[bn]
  rw[decide_eq_false (by omega)]
  rfl
 | n+1,k,hk=>by
  have h1:=hl.1
  obtain⟨e,he⟩:∃e,l[k]?=some e:=⟨_,List.getElem?_eq_getElem (by omega)⟩
  rw[CT,kK]
  simp only[bn]
  rw[decide_eq_true (by omega)]
  simp only[cond_true,bM,he,Option.bind_some,qZ e (hl.2 e (List.mem_of_getElem? he)),JM (show k≤l.length by omega),UU _ e (show (l.take k).length≤1048576 by rw[List.length_take];omega)]
  rw[ce (by omega),yB l cs hl n (k+1) (by omega)]
  simp only[wd,Sf,he]
  cases iw e<;>cases (l.take k).contains e<;>rfl
theorem ym (l:List ac)(hl:lD qB l):∀(n k:Nat),k+n=l.length→vB l (k:Int)=some (bif wd l n k then .inr () else .inl false)
 | 0,k,hk=>by
  have h1:=hl.1
  rw[Fv,lZ]
  simp only[bn]
  rw[decide_eq_false (by omega)]
  rfl
 | n+1,k,hk=>by
  have h1:=hl.1
  obtain⟨e,he⟩:∃e,l[k]?=some e:=⟨_,List.getElem?_eq_getElem (by omega)⟩
  rw[Fv,lZ]
  simp only[bn]
  rw[decide_eq_true (by omega)]
  simp only[cond_true,bM,he,Option.bind_some,qS e (hl.2 e (List.mem_of_getElem? he)),JM (show k≤l.length by omega),IR _ e (show (l.take k).length≤1048576 by rw[List.length_take];omega)]
  rw[ce (by omega),ym l hl n (k+1) (by omega)]
  simp only[wd,Sf,he]
  cases iw e<;>cases (l.take k).contains e<;>rfl
def pF (l:List ac):Bool:=wd l l.length 0&&gj (len l) 2 4
theorem SY (l:List ac)(cs:List Clause)(hl:lD qB l):vy ⟨l,cs⟩=some (pF l):=by
 unfold vy pF
 have:=yB l cs hl l.length 0 (by omega)
 rw[show (0:Int)=((0:Nat):Int) by rfl,this]
 simp only[wY]
 cases wd l l.length 0<;>rfl
theorem SA (l:List ac)(hl:lD qB l):Im l=some (pF l):=by
 unfold Im pF
 have:=ym l hl l.length 0 (by omega)
 rw[show (0:Int)=((0:Nat):Int) by rfl,this]
 simp only[sN]
 cases wd l l.length 0<;>rfl
def jy (cs:List Clause)(id:ac):Int:=match cs.findIdx? (fun e=>e.Id==id) with
 | some i=>(i:Int)
 | none=>-1
theorem Gc (c:Contract)(id:ac)(hl:c.Clauses.length≤1048576):tn c id=some (jy c.Clauses id):=by
 unfold tn jy
 rw[sL (L:=sB c id) (a:=c.Clauses) (p:=fun e=>some (e.Id==id)) (q:=fun e=>e.Id==id) (fun _ _=>rfl) (fun x=>by rw[LV,mA]<;>rfl) (by omega)]
 cases c.Clauses.findIdx? (fun e=>e.Id==id)<;>rfl
theorem FQ (c:Contract)(id:ac)(hl:c.Clauses.length≤1048576):De c id=some (jy c.Clauses id):=by
 unfold De Et jy
 rw[sL (L:=sf c.Clauses id) (a:=c.Clauses) (p:=fun e=>some (e.Id==id)) (q:=fun e=>e.Id==id) (fun _ _=>rfl) (fun x=>by rw[LS,mq]<;>rfl) (by omega)]
 cases c.Clauses.findIdx? (fun e=>e.Id==id)<;>rfl
theorem Ld (cs:List Clause)(id:ac):jy cs id=-1∨∃j:Nat,jy cs id=(j:Int)∧j<cs.length:=by
 unfold jy
 cases h:cs.findIdx? (fun e=>e.Id==id) with
 | none=>exact .inl rfl
 | some j=>
  rw[List.findIdx?_eq_some_iff_getElem] at h
  exact .inr ⟨j,rfl,h.1⟩
def JD (cs:List Clause)(i:Int)(e:Clause):Bool:=match jy cs e.Repair with
 | .ofNat k=>match cs[k]? with
  | some e'=>((k:Int) != i)&&((e'.Kind==1)&&(e.Kind != 3))
  | none=>false
 | .negSucc _=>false
def jS (c:Contract)(i:Int)(e:Clause):Bool:=
 iw e.Id&&(iw e.Action&&(gj e.Kind 1 4&&(gj e.Party 0 (aj (len c.Parties - 1))&&(gj e.Other 0 (aj (len c.Parties - 1))&&(!(e.Party==e.Other)&&(ox e.When&&(gj e.Amount 0 1000000&&(gj e.Within 0 400&&(!(bif e.Kind != 1 then (bif e.Amount != 0 then true else e.Within != 0) else false) &&
  (bif e.Repair==[] then true else JD c.Clauses i e))))))))))
theorem SZ (c:Contract)(i:Int)(e:Clause)(hl:c.Clauses.length≤1048576):((tn c e.Repair).bind fun r8=>bg (ρ:=Bool) (bif (decide (r8≥0)) then (ct (ρ:=Bool) (bif (r8 != i) then ((aK c.Clauses r8).bind fun e11=>di (bif (e11.Kind==1) then ((e.Kind != 3)) else (false)) fun u12:Bool=>some (.inr u12)) else (some (.inr false))) fun u10:Bool=>some (.inr u10)) else (some (.inr false))) fun u9:Bool=>some u9)=some (JD c.Clauses i e):=by
 rw[Gc c _ hl,Option.bind_some]
 unfold JD
 rcases Ld c.Clauses e.Repair with h | ⟨j,h,hj⟩
 ·rw[h];rfl
 ·rw[h,decide_eq_true (by omega),cond_true,bM,List.getElem?_eq_getElem hj,Option.bind_some]
  show _=some (match c.Clauses[j]? with | some e'=>_ | none=>false)
  rw[List.getElem?_eq_getElem hj]
  show _=some (((j:Int) != i)&&((c.Clauses[j].Kind==1)&&(e.Kind != 3)))
  cases ((j:Int) != i)<;>cases (c.Clauses[j].Kind==1)<;>rfl
theorem SB (c:Contract)(i:Int)(e:Clause)(hl:c.Clauses.length≤1048576):((De c e.Repair).bind fun r10=>bg (ρ:=Bool) (bif (e.Kind != 3) then (ct (ρ:=Bool) (bif (decide (r10≥0)) then (ct (ρ:=Bool) (bif (r10 != i) then ((aK c.Clauses r10).bind fun e14=>some (.inr (e14.Kind==1))) else (some (.inr false))) fun u13:Bool=>some (.inr u13)) else (some (.inr false))) fun u12:Bool=>some (.inr u12)) else (some (.inr false))) fun u11:Bool=>some u11)=some (JD c.Clauses i e):=by
 rw[FQ c _ hl,Option.bind_some]
 unfold JD
 rcases Ld c.Clauses e.Repair with h | ⟨j,h,hj⟩
 ·rw[h];cases (e.Kind != 3)<;>rfl
 ·rw[h,decide_eq_true (by omega),cond_true,bM,List.getElem?_eq_getElem hj,Option.bind_some]
  show _=some (match c.Clauses[j]? with | some e'=>_ | none=>false)
  rw[List.getElem?_eq_getElem hj]
  show _=some (((j:Int) != i)&&((c.Clauses[j].Kind==1)&&(e.Kind != 3)))
  cases ((j:Int) != i)<;>cases (c.Clauses[j].Kind==1)<;>cases (e.Kind != 3)<;>rfl
theorem KJ (c:Contract)(i:Int)(e:Clause)(he:aK c.Clauses i=some e)(hs:fZ e)(hl:c.Clauses.length≤1048576):zN c i=some (jS c i e):=by
 unfold zN jS
 rw[he,Option.bind_some,SZ c i e hl]
 simp only[qZ _ hs.1,qZ _ hs.2.2.2.1,wY,Qs _ hs.2.2.2.2.2.2.1,Option.bind_some,fU]
 cases iw e.Id with | false=>rfl | true=>?_
 cases iw e.Action with | false=>rfl | true=>?_
 cases gj e.Kind 1 4 with | false=>rfl | true=>?_
 cases gj e.Party 0 (aj (len c.Parties - 1)) with | false=>rfl | true=>?_
 cases gj e.Other 0 (aj (len c.Parties - 1)) with | false=>rfl | true=>?_
 cases (e.Party==e.Other) with | true=>rfl | false=>?_
 cases ox e.When with | false=>rfl | true=>?_
 cases gj e.Amount 0 1000000 with | false=>rfl | true=>?_
 cases gj e.Within 0 400 with | false=>rfl | true=>?_
 cases (bif e.Kind != 1 then (bif e.Amount != 0 then true else e.Within != 0) else false) with | true=>rfl | false=>?_
 cases (e.Repair==([]:ac))<;>rfl
theorem KC (c:Contract)(i:Int)(e:Clause)(he:aK c.Clauses i=some e)(hs:fZ e)(hl:c.Clauses.length≤1048576):Iq c i=some ((jy c.Clauses e.Id==i)&&jS c i e):=by
 unfold Iq jS
 rw[he,Option.bind_some,SB c i e hl]
 simp only[qS _ hs.1,qS _ hs.2.2.2.1,sN,PW _ hs.2.2.2.2.2.2.1,Option.bind_some,fU,FQ c _ hl,bne]
 cases iw e.Id with | false=>cases (jy c.Clauses e.Id==i)<;>rfl | true=>?_
 cases (jy c.Clauses e.Id==i) with | false=>rfl | true=>?_
 cases iw e.Action with | false=>rfl | true=>?_
 cases gj e.Kind 1 4 with | false=>rfl | true=>?_
 cases gj e.Party 0 (aj (len c.Parties - 1)) with | false=>rfl | true=>?_
 cases gj e.Other 0 (aj (len c.Parties - 1)) with | false=>rfl | true=>?_
 cases (e.Party==e.Other) with | true=>rfl | false=>?_
 cases ox e.When with | false=>rfl | true=>?_
 cases gj e.Amount 0 1000000 with | false=>rfl | true=>?_
 cases gj e.Within 0 400 with | false=>rfl | true=>?_
 cases (bif !(e.Kind==1) then (bif !(e.Amount==0) then true else !(e.Within==0)) else false) with | true=>rfl | false=>?_
 cases (e.Repair==([]:ac))<;>rfl
def rC (c:Contract)(i:Nat):Bool:=match c.Clauses[i]? with
 | some e=>(jy c.Clauses e.Id==(i:Int))&&jS c (i:Int) e
 | none=>true
def iO (c:Contract):Bool:=!((List.range c.Clauses.length).any fun i=>!rC c i)
theorem vO {c:Contract}:iO c=true↔∀(i:Nat) e,c.Clauses[i]?=some e→jy c.Clauses e.Id=(i:Int)∧jS c (i:Int) e=true:=by
 unfold iO
 rw[Bool.not_eq_true',←Bool.not_eq_true,List.any_eq_true]
 constructor
 ·intro h i e he
  have hi:=(List.getElem?_eq_some_iff.1 he).1
  cases h1:rC c i with
  | false=>exact absurd ⟨i,List.mem_range.2 hi,by rw[h1];rfl⟩ h
  | true=>
   simp only[rC,he,Bool.and_eq_true,beq_iff_eq] at h1
   exact h1
 ·rintro h ⟨i,hi,h2⟩
  rw[List.mem_range] at hi
  have h1:=h i _ (List.getElem?_eq_getElem hi)
  simp only[rC,List.getElem?_eq_getElem hi,h1.1,h1.2,beq_self_eq_true,Bool.and_self,Bool.not_true] at h2
  cases h2
theorem JK (c:Contract)(hc:fN c):li c 0=some (bif iO c then .inr () else .inl false):=by
 have hl:c.Clauses.length≤1048576:=hc.2.1
 have h:=l8 (a:=List.range c.Clauses.length) (q:=fun i=>!rC c i) (y0:=(Sum.inl false:Bool⊕Unit)) (y1:=.inr ()) (L:=fun i=>li c (i:Int))
  (fun i x hx=>by
   obtain⟨hi,hx'⟩:=List.getElem?_eq_some_iff.1 hx
   rw[List.getElem_range] at hx'
   subst hx'
   rw[List.length_range] at hi
   have he:=List.getElem?_eq_getElem hi
   have hg:aK c.Clauses (i:Int)=some c.Clauses[i]:=by rw[bM,he]
   show li c (i:Int)=_
   rw[CM,kI,bn,decide_eq_true hi,cond_true,hg,Option.bind_some,Gc c _ hl,Option.bind_some,KJ c _ _ hg (hc.2.2 _ (List.getElem_mem hi)) hl,ce (by omega)]
   simp only[rC,he,bne]
   cases (jy c.Clauses c.Clauses[i].Id==(i:Int))<;>cases jS c (i:Int) c.Clauses[i]<;>rfl)
  (by
   rw[List.length_range]
   show li c (c.Clauses.length:Int)=_
   rw[CM,kI,bn,decide_eq_false (Nat.lt_irrefl _),cond_false])
 rw[show li c 0=_ from h]
 unfold iO
 cases (List.range c.Clauses.length).any fun i=>!rC c i<;>rfl
theorem Jc (c:Contract)(hc:fN c):mQ c 0=some (bif iO c then .inr () else .inl false):=by
 have hl:c.Clauses.length≤1048576:=hc.2.1
 have h:=l8 (a:=List.range c.Clauses.length) (q:=fun i=>!rC c i) (y0:=(Sum.inl false:Bool⊕Unit)) (y1:=.inr ()) (L:=fun i=>mQ c (i:Int))
  (fun i x hx=>by
   obtain⟨hi,hx'⟩:=List.getElem?_eq_some_iff.1 hx
   rw[List.getElem_range] at hx'
   subst hx'
   rw[List.length_range] at hi
   have he:=List.getElem?_eq_getElem hi
   have hg:aK c.Clauses (i:Int)=some c.Clauses[i]:=by rw[bM,he]
   show mQ c (i:Int)=_
   rw[Fm,lX,bn,decide_eq_true hi,cond_true,KC c _ _ hg (hc.2.2 _ (List.getElem_mem hi)) hl,Option.bind_some,ce (by omega)]
   simp only[rC,he])
  (by
   rw[List.length_range]
   show mQ c (c.Clauses.length:Int)=_
   rw[Fm,lX,bn,decide_eq_false (Nat.lt_irrefl _),cond_false])
 rw[show mQ c 0=_ from h]
 unfold iO
 cases (List.range c.Clauses.length).any fun i=>!rC c i<;>rfl
def jl (cs:List Clause):List ac:=cs.flatMap fun e=>e.Action::il e.When
theorem vN {c:Contract}{i:Int}{e:Clause}(h:jS c i e=true):ox e.When=true:=by
 simp only[jS,Bool.and_eq_true] at h
 exact h.2.2.2.2.2.2.1
theorem rz (cs:List Clause)(i:Nat)(h:i<cs.length):jl (cs.take (i+1))=jl (cs.take i)++(cs[i].Action::il cs[i].When):=by
 unfold jl
 rw[List.take_add_one,List.getElem?_eq_getElem h,List.flatMap_append]
 simp
theorem Jm (c:Contract)(hc:fN c)(h12:c.Clauses.length≤12)(hv:iO c=true):∃r,tq c=some r∧Ip c=some r∧r.Pairwise StrL.Lt∧(∀x,x∈r↔x∈jl c.Clauses)∧r.length≤1000:=by
 have hcond:∀i (hi:i<c.Clauses.length),d3 c.Clauses[i].When=true∧aH c.Clauses[i].When≤15:=fun i hi=>by
  have h1:=vN (vO.1 hv i _ (List.getElem?_eq_getElem hi)).2
  unfold ox at h1
  rw[Bool.and_eq_true,decide_eq_true_iff] at h1
  exact h1
 have hs:∃r,tq c=some r∧r.Pairwise StrL.Lt∧(∀x,x∈r↔x∈jl c.Clauses)∧r.length≤16*c.Clauses.length:=by
  obtain⟨y,⟨r,rfl,hr⟩,h2⟩:=iE (L:=fun i (s:List ac)=>mB c ((i:Int),s)) c.Clauses.length
   (fun i s=>s.Pairwise StrL.Lt∧(∀x,x∈s↔x∈jl (c.Clauses.take i))∧s.length≤16*i)
   (fun y=>∃r,y=.inr r∧r.Pairwise StrL.Lt∧(∀x,x∈r↔x∈jl c.Clauses)∧r.length≤16*c.Clauses.length) (s:=[])
   (by
    rintro i s hi ⟨j1,j2,j3⟩
    have he:=List.getElem?_eq_getElem hi
    obtain⟨f1,f2⟩:=hcond i hi
    obtain⟨r1,e1,p1,m1,l1⟩:=StrL.put_val s c.Clauses[i].Action (by omega) j1
    obtain⟨r2,e2,p2,m2,l2⟩:=ug _ f1 r1 (by omega) p1
    refine .inl ⟨r2,⟨p2,fun x=>?_,by omega⟩,?_⟩
    ·rw[m2,m1,j2,rz _ _ hi,List.mem_append,List.mem_cons,or_assoc]
    ·show mB c ((i:Int),s)=_
     rw[CP,kJ]
     simp only[bn,decide_eq_true hi,cond_true,bM,he,Option.bind_some,e1,e2]
     rw[ce (by omega)])
   (by
    rintro s ⟨j1,j2,j3⟩
    rw[List.take_length] at j2
    refine⟨.inr s,⟨s,rfl,j1,j2,j3⟩,?_⟩
    show mB c ((c.Clauses.length:Int),s)=_
    rw[CP,kJ]
    simp only[bn,decide_eq_false (Nat.lt_irrefl _),cond_false]) ⟨List.Pairwise.nil,fun x=>by simp[jl],by simp⟩
  refine⟨r,?_,hr⟩
  unfold tq
  rw[show mB c (0,[])=some (.inr r) from h2]
  rfl
 obtain⟨r,e,p,m,l⟩:=hs
 refine⟨r,e,?_,p,m,by omega⟩
 obtain⟨y,h1,h2⟩:=iE (L:=fun i (s:List ac)=>oQ c ((i:Int),s)) c.Clauses.length
  (fun i s=>s=jl (c.Clauses.take i)∧s.length≤16*i) (fun y=>y=.inr (jl c.Clauses)∧(jl c.Clauses).length≤16*c.Clauses.length) (s:=[])
  (by
   rintro i s hi ⟨j1,j2⟩
   have he:=List.getElem?_eq_getElem hi
   obtain⟨f1,f2⟩:=hcond i hi
   have hlen:=ny c.Clauses[i].When
   refine .inl ⟨jl (c.Clauses.take (i+1)),⟨rfl,?_⟩,?_⟩
   ·rw[rz _ _ hi,←j1,List.length_append,List.length_cons];omega
   ·show oQ c ((i:Int),s)=_
    rw[Fz,l4]
    simp only[bn,decide_eq_true hi,cond_true,bM,he,Option.bind_some]
    rw[kO (by omega) (by omega),Option.bind_some,tL _ _ (by rw[List.length_append,List.length_singleton];omega),Option.bind_some,ce (by omega),rz _ _ hi,←j1,List.append_assoc]
    try rfl)
  (by
   rintro s ⟨j1,j2⟩
   rw[List.take_length] at j1
   refine⟨_,⟨rfl,by rw[←j1];exact j2⟩,?_⟩
   show oQ c ((c.Clauses.length:Int),s)=_
   rw[Fz,l4]
   simp only[bn,decide_eq_false (Nat.lt_irrefl _),cond_false]
   rw[j1]) ⟨by simp[jl],by simp⟩
 unfold Ip
 rw[show oQ c (0,[])=some y from h2,h1.1,ft,K8 _ r (by omega) p m]
 rfl
noncomputable def je (c:Contract):Bool:=(gj (len c.Clauses) 1 12&&pF c.Parties)&&(iO c&&(match tq c with | some r=>decide (len r≤16) | none=>false))
theorem Gm (c:Contract)(hc:fN c):zQ c=some (je c):=by
 unfold zQ je
 have hp:=SY c.Parties c.Clauses hc.1
 rw[wY,show vy c=_ from hp,JK c hc,Option.bind_some]
 cases h1:gj (len c.Clauses) 1 12 with | false=>rfl | true=>?_
 cases pF c.Parties with | false=>rfl | true=>?_
 cases h2:iO c with | false=>rfl | true=>?_
 rw[pU] at h1
 obtain⟨r,e,_⟩:=Jm c hc (by simp only[len] at h1;omega) h2
 rw[e]
 rfl
theorem Gh (c:Contract)(hc:fN c):HN c=some (je c):=by
 unfold HN je
 rw[SA c.Parties hc.1,Jc c hc,Option.bind_some,sN]
 cases h1:gj (len c.Clauses) 1 12 with | false=>cases pF c.Parties<;>rfl | true=>?_
 cases pF c.Parties with | false=>rfl | true=>?_
 cases h2:iO c with | false=>rfl | true=>?_
 rw[pU] at h1
 obtain⟨r,e,e2,_⟩:=Jm c hc (by simp only[len] at h1;omega) h2
 rw[e,e2]
 rfl
theorem jf {c:Contract}(h:je c=true):1≤c.Clauses.length∧c.Clauses.length≤12∧pF c.Parties=true∧∀(i:Nat) e,c.Clauses[i]?=some e→jy c.Clauses e.Id=(i:Int)∧jS c (i:Int) e=true:=by
 simp only[je,Bool.and_eq_true,pU] at h
 obtain⟨⟨⟨h1,h2⟩,h3⟩,h4,_⟩:=h
 simp only[len] at h1 h2
 exact⟨by omega,by omega,h3,vO.1 h4⟩
theorem qx (l:List Int)(n:Int)(m:Nat)(hm:m≤l.length)(hl:l.length≤1048576)(h1:∀(j:Nat) x,j<m→l[j]?=some x→x<n)(h2:∀x,l[m]?=some x→¬x<n):∀(k j:Nat),j+k=m→si l n (j:Int)=some (.inr (n,(m:Int),l))
 | 0,j,hj=>by
  obtain rfl:j=m:=by omega
  rw[B3,kA,bn]
  by_cases h:j<l.length
  ·rw[decide_eq_true h,cond_true,bM,List.getElem?_eq_getElem h,Option.bind_some,iC,decide_eq_false (h2 _ (List.getElem?_eq_getElem h)),cond_false]
  ·rw[decide_eq_false h,cond_false,iC,cond_false]
 | k+1,j,hj=>by
  have h:j<l.length:=by omega
  rw[B3,kA,bn,decide_eq_true h,cond_true,bM,List.getElem?_eq_getElem h,Option.bind_some,iC,decide_eq_true (h1 j _ (by omega) (List.getElem?_eq_getElem h)),cond_true,ce (by omega)]
  exact qx l n m hm hl h1 h2 k (j+1) (by omega)
theorem qm {b:Nat}{xs ys:List Int}(h:(xs.length+ys.length)*b≤1099511627776)(h2:xs.length+ys.length≤1099511627776):fy b xs ys=some (xs++ys):=by
 unfold fy
 rw[if_pos]
 simp only[lC]
 omega
theorem put_val (l : List Int)(n : Int)(hl : l.length ≤ 1000000)(hs : l.Pairwise (· < ·)) : ∃ r,uT l n=some r ∧ r.Pairwise (· < ·) ∧ (∀ x,x ∈ r ↔ x ∈ l ∨ x=n) ∧ r.length ≤ l.length + 1:=by
  have key : ∃ m,m ≤ l.length ∧ (∀ (j : Nat) x,j < m→l[j]?=some x→x < n) ∧ (∀ x,l[m]?=some x→¬ x < n):=by
    clear hl
    induction l with
    | nil=>exact ⟨0,by simp,fun j x hj=>by omega,fun x hx=>by simp at hx⟩
    | cons y l ih =>
      by_cases hy : y < n
      · obtain ⟨m,h1,h2,h3⟩:=ih (List.pairwise_cons.1 hs).2
        refine ⟨m + 1,by simp; omega,fun j x hj hx=>?_,fun x hx=>h3 x (by simpa using hx)⟩
        cases j with
        | zero=>simp at hx; omega
        | succ j=>exact h2 j x (by omega) (by simpa using hx)
      · exact ⟨0,by simp,fun j x hj=>by omega,fun x hx=>by simp at hx; omega⟩
  obtain ⟨m,hm,h1,h2⟩:=key
  have hlow : ∀ x ∈ l.take m,x < n:=by
    intro x hx
    obtain ⟨i,hi,rfl⟩:=List.mem_iff_getElem.1 hx
    rw [List.length_take] at hi
    rw [List.getElem_take]
    exact h1 i _ (by omega) (List.getElem?_eq_getElem (by omega))
  have hloop:=qx l n m hm (by omega) h1 h2 m 0 (by omega)
  rw [show ((0 : Nat) : Int)=0 from rfl] at hloop
  unfold uT
  rw [hloop]
  simp only [ft,bn]
  have s1 : gx l.length 0 (m : Int)=some ():=by unfold gx; rw [if_pos (by omega)]
  have s2 : gx l.length (m : Int) (len l)=some ():=by unfold gx; rw [if_pos (by simp only [len]; omega)]
  have p1 : ga l (0 + Int.toNat 0) (Int.toNat (m : Int) - Int.toNat 0)=some (l.take m):=by
    unfold ga
    simp only [Int.toNat_zero,Int.toNat_natCast,Nat.zero_add,Nat.sub_zero,List.drop_zero]
    rw [if_pos hm]
  have p2 : ga l (0 + Int.toNat (m : Int)) (Int.toNat (len l) - Int.toNat (m : Int))=some (l.drop m):=by
    unfold ga
    simp only [Int.toNat_natCast,Nat.zero_add,len]
    rw [if_pos (by omega),List.take_of_length_le (by rw [List.length_drop]; omega)]
  have a1 : fy 8 ([] : List Int) (l.take m)=some (l.take m):=by rw [qm (by simp only [List.length_nil,List.length_take]; omega) (by simp only [List.length_nil,List.length_take]; omega)]; rfl
  have a2 : fy 8 (l.take m) [n]=some (l.take m ++ [n]):=kO (by rw [List.length_take]; omega) (by rw [List.length_take]; omega)
  have a3 : fy 8 (l.take m ++ [n]) (l.drop m)=some (l.take m ++ [n] ++ l.drop m):=qm (by simp only [List.length_append,List.length_take,List.length_drop,List.length_singleton]; omega) (by simp only [List.length_append,List.length_take,List.length_drop,List.length_singleton]; omega)
  have hins : (∀ x ∈ l.drop m,n < x)→(l.take m ++ [n] ++ l.drop m).Pairwise (· < ·) ∧ (∀ x,x ∈ l.take m ++ [n] ++ l.drop m ↔ x ∈ l ∨ x=n) ∧ (l.take m ++ [n] ++ l.drop m).length ≤ l.length + 1:=by
    intro hhi
    have hs2:=hs
    rw [← List.take_append_drop m l,List.pairwise_append] at hs2
    refine ⟨List.pairwise_append.2 ⟨List.pairwise_append.2 ⟨hs2.1,List.pairwise_singleton _ _,fun x hx y hy=>?_⟩,hs2.2.1,fun x hx y hy=>?_⟩,fun x=>?_,?_⟩
    · rw [List.mem_singleton] at hy; subst hy; exact hlow x hx
    · rcases List.mem_append.1 hx with hx | hx
      · exact hs2.2.2 x hx y hy
      · rw [List.mem_singleton] at hx; subst hx; exact hhi y hy
    · have : x ∈ l ↔ x ∈ l.take m ∨ x ∈ l.drop m:=by
        rw [← List.mem_append,List.take_append_drop]
      rw [List.mem_append,List.mem_append,List.mem_singleton,this]
      constructor
      · rintro ((h | h) | h)
        · exact .inl (.inl h)
        · exact .inr h
        · exact .inl (.inr h)
      · rintro ((h | h) | h)
        · exact .inl (.inl h)
        · exact .inr h
        · exact .inl (.inr h)
    · simp only [List.length_append,List.length_take,List.length_drop,List.length_singleton]; omega
  by_cases hb : m < l.length
  · have hx:=List.getElem?_eq_getElem hb
    have hge:=h2 _ hx
    have hrest : ∀ x ∈ l.drop (m + 1),l[m] < x:=by
      intro x hx
      obtain ⟨i,hi,rfl⟩:=List.mem_iff_getElem.1 hx
      rw [List.length_drop] at hi
      rw [List.getElem_drop]
      exact List.pairwise_iff_getElem.1 hs m (m + 1 + i) hb (by omega) (by omega)
    rw [decide_eq_true hb,cond_true,bM,hx,Option.bind_some,ft,mH]
    by_cases he : l[m]=n
    · rw [decide_eq_true he,cond_true]
      refine ⟨l,rfl,hs,fun x=>⟨.inl,?_⟩,by omega⟩
      rintro (h | h)
      · exact h
      · rw [h,← he]; exact List.getElem_mem hb
    · rw [decide_eq_false he,cond_false]
      simp only [s1,p1,a1,a2,s2,p2,a3,Option.bind_some]
      refine ⟨_,rfl,hins ?_⟩
      intro x hx
      rw [List.drop_eq_getElem_cons hb] at hx
      rcases List.mem_cons.1 hx with rfl | hx
      · omega
      · have:=hrest x hx; omega
  · rw [decide_eq_false hb,cond_false,ft,cond_false]
    simp only [s1,p1,a1,a2,s2,p2,a3,Option.bind_some]
    refine ⟨_,rfl,hins ?_⟩
    intro x hx
    rw [List.drop_of_length_le (by omega)] at hx
    cases hx
mutual
def iD:Condition→List Int
 | ⟨op,_,day,parts⟩=>(if op=3 then [day] else [])++fz parts
def fz:List Condition→List Int
 | []=>[]
 | x::xs=>iD x++fz xs
end
theorem IV (c:Condition):iD c=(if c.Op=3 then [c.Day] else [])++fz c.Parts:=by cases c;simp only[iD]
theorem DH:∀(a b:List Condition),fz (a++b)=fz a++fz b
 | [],b=>rfl
 | x::a,b=>by simp only[List.cons_append,fz,DH a b,List.append_assoc]
theorem yb (a:List Condition)(i:Nat)(h:i<a.length):fz (a.take (i+1))=fz (a.take i)++iD a[i]:=by
 rw[List.take_add_one,List.getElem?_eq_getElem h,DH]
 simp[fz]
mutual
theorem qN:∀c,(iD c).length≤aH c
 | ⟨op,name,day,parts⟩=>by
  have:=tC parts
  simp only[iD,aH,List.length_append]
  split<;>simp<;>omega
theorem tC:∀a,(fz a).length≤aB a
 | []=>by simp[fz]
 | x::a=>by
  have h1:=qN x
  have h2:=tC a
  simp only[fz,aB,List.length_append]
  omega
end
theorem FP (c:Condition):∀l:List Int,l.length+aH c≤1000000→K5 c l=some (l++iD c):=by
 refine ep (P:=fun c=>∀l:List Int,l.length+aH c≤1000000→K5 c l=some (l++iD c)) ?_ c
 intro c ih l hl
 have hnc:=ed c
 have hpl:=eW c.Parts
 rw[Wn]
 unfold wz
 have h0:(bif (c.Op==3) then ((fy 8 l [c.Day]).bind fun a8=>some (.inr a8)) else (some (.inr l)):Option (List Int⊕List Int))=some (.inr (l++if c.Op=3 then [c.Day] else [])):=by
  rw[mH]
  by_cases h:c.Op=3
  ·rw[decide_eq_true h,cond_true,kO (by omega) (by omega),if_pos h];rfl
  ·rw[decide_eq_false h,cond_false,if_neg h,List.append_nil]
 rw[h0,ft]
 have hlen:(l++if c.Op=3 then [c.Day] else []).length≤l.length+1:=by
  rw[List.length_append];split<;>simp
 rw[IV,←List.append_assoc]
 generalize (l++if c.Op=3 then [c.Day] else [])=l1 at hlen ⊢
 obtain⟨y,h1,h2⟩:=iE (L:=fun i (s:List Int)=>mT (aA mS) c l ((i:Int),s)) c.Parts.length (fun i s=>s=l1++fz (c.Parts.take i)) (fun y=>y=.inr (l1++fz c.Parts)) (s:=l1)
  (by
   intro i s hi hj
   have hx:=List.getElem?_eq_getElem hi
   have h3:=mJ c.Parts i hi
   have h4:=iI c.Parts (i+1)
   have h5:=tC (c.Parts.take i)
   refine .inl ⟨l1++fz (c.Parts.take (i+1)),rfl,?_⟩
   show mT (aA mS) c l ((i:Int),s)=_
   rw[Fs,kL]
   simp only[bn,decide_eq_true hi,cond_true,bM,hx,Option.bind_some]
   rw[show aA mS (c.Parts[i],s)=_ from ih _ (List.getElem_mem hi) s (by rw[hj,List.length_append];omega),Option.bind_some,ce (by omega),hj,yb _ _ hi,List.append_assoc])
  (by
   intro s hj
   refine⟨_,rfl,?_⟩
   rw[List.take_length] at hj
   show mT (aA mS) c l ((c.Parts.length:Int),s)=_
   rw[Fs,kL]
   simp only[bn,decide_eq_false (Nat.lt_irrefl _),cond_false]
   rw[hj]) (by simp[fz])
 rw[show mT (aA mS) c l (0,l1)=some y from h2,h1]
 rfl
theorem Gb (c : Condition) : d3 c=true→∀ l : List Int,l.length + aH c ≤ 1000000→l.Pairwise (· < ·)→∃ r,uV l c=some r ∧ r.Pairwise (· < ·) ∧ (∀ x,x ∈ r ↔ x ∈ l ∨ x ∈ iD c) ∧ r.length ≤ l.length + aH c:=by
  refine ep (P:=fun c=>d3 c=true→∀ l : List Int,l.length + aH c ≤ 1000000→l.Pairwise (· < ·)→∃ r,uV l c=some r ∧ r.Pairwise (· < ·) ∧ (∀ x,x ∈ r ↔ x ∈ l ∨ x ∈ iD c) ∧ r.length ≤ l.length + aH c) ?_ c
  intro c ih hf l hl hs
  have hnc:=ed c
  have hpl:=eW c.Parts
  rw [oX,Bool.and_eq_true,List.all_eq_true] at hf
  rw [KT]
  unfold sj
  rw [mH,IV]
  by_cases ho : c.Op=3
  · obtain ⟨r,e,r1,r2,r3⟩:=put_val l c.Day (by omega) hs
    rw [decide_eq_true ho,cond_true,e,if_pos ho,DL hf.1 (.inr ho)]
    exact ⟨r,rfl,r1,fun x=>by rw [r2]; simp [fz],by omega⟩
  rw [decide_eq_false ho,cond_false,if_neg ho,List.nil_append]
  obtain ⟨y,h1,h2⟩:=iE (L:=fun i (s : List Int)=>iY (aA ia) l c ((i : Int),s)) c.Parts.length
    (fun i s=>s.Pairwise (· < ·) ∧ (∀ x,x ∈ s ↔ x ∈ l ∨ x ∈ fz (c.Parts.take i)) ∧ s.length ≤ l.length + aB (c.Parts.take i))
    (fun y=>∃ r,y=.inr r ∧ r.Pairwise (· < ·) ∧ (∀ x,x ∈ r ↔ x ∈ l ∨ x ∈ fz c.Parts) ∧ r.length ≤ l.length + aH c) (s:=l)
    (by
      rintro i s hi ⟨j1,j2,j3⟩
      have hx:=List.getElem?_eq_getElem hi
      have h3:=mJ c.Parts i hi
      have h4:=iI c.Parts (i + 1)
      obtain ⟨r,e,r1,r2,r3⟩:=ih _ (List.getElem_mem hi) (hf.2 _ (List.getElem_mem hi)) s (by omega) j1
      refine .inl ⟨r,⟨r1,fun x=>?_,by omega⟩,?_⟩
      · rw [r2,j2,yb _ _ hi,List.mem_append,or_assoc]
      show iY (aA ia) l c ((i : Int),s)=_
      rw [pq,iy]
      simp only [bn,decide_eq_true hi,cond_true,bM,hx,Option.bind_some]
      rw [show aA ia (s,c.Parts[i])=_ from e,Option.bind_some,ce (by omega)])
    (by
      rintro s ⟨j1,j2,j3⟩
      rw [List.take_length] at *
      refine ⟨.inr s,⟨s,rfl,j1,j2,by omega⟩,?_⟩
      show iY (aA ia) l c ((c.Parts.length : Int),s)=_
      rw [pq,iy]
      simp only [bn,decide_eq_false (Nat.lt_irrefl _),cond_false]) ⟨hs,fun x=>by simp [fz],by simp [aB]⟩
  obtain ⟨r,rfl,hr⟩:=h1
  rw [show iY (aA ia) l c (0,l)=some (.inr r) from h2]
  exact ⟨r,rfl,hr⟩
theorem Ss {c:Condition}(h:pA c=true):(c.Op=1∧c.Parts=[])∨(c.Op=2∧c.Parts=[])∨(c.Op=3∧c.Parts=[])∨(c.Op=4∧∃p,c.Parts=[p])∨(c.Op=5∧∃p q,c.Parts=[p,q])∨(c.Op=6∧∃p q,c.Parts=[p,q]):=by
 rw[tG,Av,JO] at h
 rw[Bool.and_eq_true,Bool.and_eq_true,decide_eq_true_iff,pU] at h
 obtain⟨⟨⟨h1,h2⟩,h3⟩,_⟩:=h
 have ho:c.Op=1∨c.Op=2∨c.Op=3∨c.Op=4∨c.Op=5∨c.Op=6:=by omega
 have two:∀{a:List Condition},a.length=2→∃p q,a=[p,q]:=fun {a} h=>by
  match a,h with
  | [p,q],_=>exact⟨p,q,rfl⟩
 have one:∀{a:List Condition},a.length=1→∃p,a=[p]:=fun {a} h=>by
  match a,h with
  | [p],_=>exact⟨p,rfl⟩
 rcases ho with h | h | h | h | h | h<;>simp only[h] at h3 ⊢
 ·exact .inl ⟨trivial,List.length_eq_zero_iff.1 (by simpa using h3)⟩
 ·exact .inr (.inl ⟨trivial,List.length_eq_zero_iff.1 (by simpa using h3)⟩)
 ·exact .inr (.inr (.inl ⟨trivial,List.length_eq_zero_iff.1 (by simpa using h3)⟩))
 ·exact .inr (.inr (.inr (.inl ⟨trivial,one (by simpa using h3)⟩)))
 ·exact .inr (.inr (.inr (.inr (.inl ⟨trivial,two (by simpa using h3)⟩))))
 ·exact .inr (.inr (.inr (.inr (.inr ⟨trivial,two (by simpa using h3)⟩))))
theorem IT (a:List ac)(s:ac)(ha:a.length≤1048576):nS a s=some (a.contains s):=by
 unfold nS uR
 rw[sL (L:=nT a s) (a:=a) (p:=fun e=>some (s==e)) (q:=fun e=>s==e) (fun _ _=>rfl) (fun x=>by rw[te,js]<;>rfl) (by omega)]
 cases h:a.findIdx? (fun e=>s==e) with
 | none=>
  have:a.contains s=false:=by
   rw[List.findIdx?_eq_none_iff] at h
   rw[Bool.eq_false_iff]
   intro hc
   rw[List.contains_iff_exists_mem_beq] at hc
   obtain⟨w,hw,he⟩:=hc
   rw[h w hw] at he
   cases he
  rw[this]
  rfl
 | some i=>
  have:a.contains s=true:=by
   rw[List.findIdx?_eq_some_iff_getElem] at h
   obtain⟨hi,he,_⟩:=h
   rw[List.contains_iff_exists_mem_beq]
   exact⟨_,List.getElem_mem hi,he⟩
  rw[this]
  simp
theorem UV (a:List ac)(s:ac)(ha:a.length≤1048576):rj a s=some (a.contains s):=by
 unfold rj
 rw[wI (L:=pP a s) (a:=a) (p:=fun e=>some (e==s)) (r:=true) (q:=fun e=>e==s) (fun x _=>rfl) (fun x=>by rw[Ce,kC]<;>rfl) (by omega)]
 have:a.any (fun e=>e==s)=a.contains s:=by
  rw[List.contains_eq_any_beq]
  congr 1
  funext e
  exact Bool.beq_comm
 rw[this]
 cases a.contains s<;>rfl
theorem Ll (c:Condition):d3 c=true→∀(f:List ac) (d:Int),f.length≤1048576→∃b,tj c f d=some b∧Fy c f d=some b:=by
 refine ep (P:=fun c=>d3 c=true→∀(f:List ac) (d:Int),f.length≤1048576→∃b,tj c f d=some b∧Fy c f d=some b) ?_ c
 intro c ih hf f d hl
 rw[oX,Bool.and_eq_true,List.all_eq_true] at hf
 obtain⟨hf,hp⟩:=hf
 rw[KZ,Wq]
 unfold sn wD
 have g0:∀{p:Condition} {l:List Condition},aK (p::l) 0=some p:=rfl
 have g1:∀{p q:Condition} {l:List Condition},aK (p::q::l) 1=some q:=rfl
 rcases Ss hf with⟨o,e⟩ | ⟨o,e⟩ | ⟨o,e⟩ | ⟨o,p,e⟩ | ⟨o,p,q,e⟩ | ⟨o,p,q,e⟩
 ·exact⟨true,by rw[o];rfl,by rw[o];rfl⟩
 ·exact⟨f.contains c.Name,by rw[o,UV f _ hl];rfl,by rw[o,IT f _ hl];rfl⟩
 ·exact⟨decide (d≥c.Day),by rw[o];rfl,by rw[o];rfl⟩
 ·rw[e] at ih hp
  obtain⟨b,h1,h2⟩:=ih p (by simp) (hp p (by simp)) f d hl
  refine⟨!b,?_,?_⟩
  ·rw[o,e]
   simp only[Int.reduceBEq,cond_false,cond_true]
   rw[g0,Option.bind_some,show aA i7 (p,f,d)=_ from h1];rfl
  ·rw[o,e]
   simp only[Int.reduceBEq,cond_false,cond_true]
   rw[g0,Option.bind_some,show aA mX (p,f,d)=_ from h2];rfl
 ·rw[e] at ih hp
  obtain⟨b,h1,h2⟩:=ih p (by simp) (hp p (by simp)) f d hl
  obtain⟨b',h3,h4⟩:=ih q (by simp) (hp q (by simp)) f d hl
  refine⟨b&&b',?_,?_⟩
  ·rw[o,e]
   simp only[Int.reduceBEq,cond_false,cond_true]
   rw[g0,g1,Option.bind_some,show aA i7 (p,f,d)=_ from h1,Option.bind_some]
   cases b with
   | false=>rfl
   | true=>rw[cond_true,Option.bind_some,show aA i7 (q,f,d)=_ from h3];rfl
  ·rw[o,e]
   simp only[Int.reduceBEq,cond_false,cond_true]
   rw[g0,g1,Option.bind_some,show aA mX (p,f,d)=_ from h2,Option.bind_some]
   cases b with
   | false=>rfl
   | true=>rw[cond_true,Option.bind_some,show aA mX (q,f,d)=_ from h4];rfl
 ·rw[e] at ih hp
  obtain⟨b,h1,h2⟩:=ih p (by simp) (hp p (by simp)) f d hl
  obtain⟨b',h3,h4⟩:=ih q (by simp) (hp q (by simp)) f d hl
  refine⟨b||b',?_,?_⟩
  ·rw[o,e]
   simp only[Int.reduceBEq,cond_false,cond_true]
   rw[g0,g1,Option.bind_some,show aA i7 (p,f,d)=_ from h1,Option.bind_some]
   cases b with
   | true=>rfl
   | false=>rw[cond_false,Option.bind_some,show aA i7 (q,f,d)=_ from h3];rfl
  ·rw[o,e]
   simp only[Int.reduceBEq,cond_false,cond_true]
   rw[g0,g1,Option.bind_some,show aA mX (p,f,d)=_ from h2,Option.bind_some]
   cases b with
   | true=>rfl
   | false=>rw[cond_false,Option.bind_some,show aA mX (q,f,d)=_ from h4];rfl
noncomputable def kd (c:Condition)(f:List ac)(d:Int):Bool:=(Fy c f d).getD false
theorem Gd {c:Condition}(h:d3 c=true){f:List ac}{d:Int}(hl:f.length≤1048576):tj c f d=some (kd c f d):=by
 obtain⟨b,h1,h2⟩:=Ll c h f d hl
 unfold kd
 rw[h1,h2];rfl
theorem FR {c:Condition}(h:d3 c=true){f:List ac}{d:Int}(hl:f.length≤1048576):Fy c f d=some (kd c f d):=by
 obtain⟨b,h1,h2⟩:=Ll c h f d hl
 unfold kd
 rw[h2];rfl
theorem AH {n:Nat}(h:n≤1048576):IntKind.u64.wrap (n:Int)=(n:Int):=by
 show (n:Int) % 18446744073709551616=n
 omega
theorem Qz (a b:Condition)(h:Bool)(names:List ac)(m:Int)(days:List Int)(q:Int)(hl:names.length≤1000):∃f,rm names m=some f∧qh a b h names m days q (0,[])=some (.inr f)∧f.length≤names.length:=by
 have key:∀(k i:Nat) (out:List ac),i+k=names.length→out.length≤i→∃f,pR names m ((i:Int),out)=some (.inr f)∧qh a b h names m days q ((i:Int),out)=some (.inr f)∧f.length≤names.length:=by
  intro k
  induction k with
  | zero=>
   intro i out hi ho
   refine⟨out,?_,?_,by omega⟩
   ·rw[CB,kH]
    simp only[bn,decide_eq_false (show ¬i<names.length by omega),cond_false]
   ·rw[FB,l6]
    simp only[bn,decide_eq_false (show ¬i<names.length by omega),cond_false]
  | succ k ih=>
   intro i out hi ho
   have hi1:i<names.length:=by omega
   have hx:=List.getElem?_eq_getElem hi1
   have hs:Fc .i64 m (i:Int)=some (SW .i64 m (i:Int)):=by unfold Fc;rw[if_neg (by omega)]
   rw[CB,kH,FB,l6]
   simp only[bn,decide_eq_true hi1,cond_true,bM,hx,Option.bind_some,AH (show i≤1048576 by omega),hs,ce (show i<9223372036854775807 by omega)]
   cases II .i64 (SW .i64 m (i:Int)) 1==1 with
   | false=>exact ih (i+1) out (by omega) (by omega)
   | true=>
    rw[cond_true,cond_true,kO (by omega) (by omega)]
    exact ih (i+1) (out++[names[i]]) (by omega) (by rw[List.length_append,List.length_singleton];omega)
 obtain⟨f,h1,h2,h3⟩:=key names.length 0 [] (by omega) (by simp)
 refine⟨f,?_,h2,h3⟩
 unfold rm
 rw[show pR names m (0,[])=_ from h1]
 rfl
theorem Qa {l r:List ac}{b:Condition}(h:qc l b=some r):qc l ⟨4,[],0,[b]⟩=some r:=by
 rw[K1]
 show (bg (ρ:=List ac) (i9 (aA ib) l ⟨4,[],0,[b]⟩ (0,l)) fun u7:(List ac)=>some u7)=_
 rw[pr,iz]
 show (bg (ρ:=List ac) ((aA ib (l,b)).bind fun r6=>i9 (aA ib) l ⟨4,[],0,[b]⟩ (aj (0+1),r6)) fun u7:(List ac)=>some u7)=_
 rw[show aA ib (l,b)=_ from h,Option.bind_some,pr]
 rfl
theorem Sm {l r:List Int}{b:Condition}(h:uV l b=some r):uV l ⟨4,[],0,[b]⟩=some r:=by
 rw[KT]
 show (bg (ρ:=List Int) (iY (aA ia) l ⟨4,[],0,[b]⟩ (0,l)) fun u7:(List Int)=>some u7)=_
 rw[pq,iy]
 show (bg (ρ:=List Int) ((aA ia (l,b)).bind fun r6=>iY (aA ia) l ⟨4,[],0,[b]⟩ (aj (0+1),r6)) fun u7:(List Int)=>some u7)=_
 rw[show aA ia (l,b)=_ from h,Option.bind_some,pq]
 rfl
theorem PT {f:List ac}{d:Int}{b:Condition}{r:Bool}(h:tj b f d=some r):tj ⟨4,[],0,[b]⟩ f d=some (!r):=by
 rw[KZ]
 show ((aA i7 (b,f,d)).bind fun r6=>some (!r6))=_
 rw[show aA i7 (b,f,d)=_ from h]
 rfl
theorem Fb {n:Nat}(h:n≤40):AE .i64 1 (n:Int)=some ((2 ^ n:Nat):Int):=by
 have h2:2 ^ n≤1099511627776:=Nat.pow_le_pow_right (n:=2) (by omega) h
 unfold AE
 rw[if_neg (by omega),WV,Int.one_mul,Int.toNat_natCast,show min n IntKind.i64.bits=n from Nat.min_eq_left (show n≤64 by omega)]
 rw[show ((2:Int) ^ n)=((2 ^ n:Nat):Int) by simp]
 generalize 2 ^ n=z at h2
 congr 1
 exact eH (by omega) (by omega)
theorem U0 (a b:Condition)(ha:d3 a=true)(hb:d3 b=true)(hna:aH a≤1000)(hnb:aH b≤1000) :
  ∃few r,ri a b=some few∧Dq a b true=some (bif few then (r,true) else (false,false))∧(few=true→tf a b=some r):=by
 obtain⟨n1,e1,p1,m1,l1⟩:=ug a ha [] (by simp;omega) List.Pairwise.nil
 obtain⟨N,e2,p2,m2,l2⟩:=ug b hb n1 (by simp at l1;omega) p1
 have hN:Dp (il a++il b)=some N:=K8 _ _ (by have:=ny a;have:=ny b;rw[List.length_append];omega) p2 fun x=>by rw[m2,m1,List.mem_append];simp
 have a1:=tL a [] (by simp;omega)
 have a2:=tL b ([]++il a) (by have:=ny a;simp;omega)
 simp only[List.nil_append] at a1 a2
 have hlen:N.length≤2000:=by simp at l1;omega
 have hfew:ri a b=some (decide (N.length≤10)):=by
  unfold ri
  rw[e1,Option.bind_some,e2,Option.bind_some]
  congr 1
  by_cases h:N.length≤10
  ·rw[decide_eq_true h,decide_eq_true];simp only[len];omega
  ·rw[decide_eq_false h,decide_eq_false];simp only[len];omega
 by_cases h10:¬N.length≤10
 ·refine⟨false,false,by rw[hfew,decide_eq_false h10],?_,fun h=>by cases h⟩
  unfold Dq
  rw[a1,Option.bind_some,a2,Option.bind_some,hN,Option.bind_some,decide_eq_true (by simp only[len];omega)]
  rfl
 replace h10:N.length≤10:=Decidable.not_not.1 h10
 obtain⟨d1,f1,q1,k1,g1⟩:=Gb a ha [] (by simp;omega) List.Pairwise.nil
 obtain⟨d2,f2,q2,k2,g2⟩:=Gb b hb d1 (by simp at g1;omega) q1
 obtain⟨D,f3,q3,k3,g3⟩:=put_val d2 0 (by simp at g1;omega) q2
 have b1:=FP a [0] (by simp;omega)
 have b2:=FP b ([0]++iD a) (by have:=qN a;simp;omega)
 have hmem:∀x,x∈D↔x∈[0]++iD a++iD b:=fun x=>by
  rw[k3,k2,k1,List.mem_append,List.mem_append]
  simp only[List.not_mem_nil,false_or,List.mem_singleton]
  constructor
  ·rintro ((h | h) | h)
   ·exact .inl (.inr h)
   ·exact .inr h
   ·exact .inl (.inl h)
  ·rintro ((h | h) | h)
   ·exact .inr h
   ·exact .inl (.inl h)
   ·exact .inl (.inr h)
 have hD2:D.length≤3000:=by simp at g1;omega
 have hE2:([0]++iD a++iD b).length≤3000:=by have:=qN a;have:=qN b;simp;omega
 generalize ([0]++iD a++iD b)=E at *
 have pw:2 ^ N.length≤2 ^ 10:=Nat.pow_le_pow_right (by omega) h10
 let F:Nat→List ac:=fun i=>(rm N (i:Int)).getD []
 have hF:∀i:Nat,rm N (i:Int)=some (F i)∧(∀h days q,qh a b h N (i:Int) days q (0,[])=some (.inr (F i)))∧(F i).length≤1000:=by
  intro i
  have h0:=Qz a b true N (i:Int) E 0 (by omega)
  obtain⟨f,z1,z2,z3⟩:=h0
  have hf:F i=f:=by show (rm N (i:Int)).getD []=f;rw[z1];rfl
  refine⟨by rw[z1,hf],fun h days q=>?_,by rw[hf];omega⟩
  obtain⟨f',y1,y2,y3⟩:=Qz a b h N (i:Int) days q (by omega)
  rw[z1] at y1
  cases y1
  rw[hf];exact y2
 let Q:Nat→Int→Bool:=fun i d=>kd a (F i) d&&kd b (F i) d
 have hany:∀i,D.any (Q i)=E.any (Q i):=fun i=>by
  rw[Bool.eq_iff_iff,List.any_eq_true,List.any_eq_true]
  constructor
  ·rintro⟨x,h1,h2⟩;exact⟨x,(hmem x).1 h1,h2⟩
  ·rintro⟨x,h1,h2⟩;exact⟨x,(hmem x).2 h1,h2⟩
 have hsb:∀i:Nat,mt a ⟨4,[],0,[b]⟩ D (F i) N (i:Int) 0=some (if D.any (Q i) then .inl false else .inr ()):=by
  intro i
  have hl:=(hF i).2.2
  refine l8 (L:=fun j=>mt a ⟨4,[],0,[b]⟩ D (F i) N (i:Int) (j:Int)) (fun j x hx=>?_) ?_
  ·obtain⟨hj,_⟩:=List.getElem?_eq_some_iff.1 hx
   show mt a ⟨4,[],0,[b]⟩ D (F i) N (i:Int) (j:Int)=_
   rw[Cn,kE,bn,decide_eq_true hj,cond_true,bM,hx,Option.bind_some,Gd ha (by omega),Option.bind_some,Option.bind_some,PT (Gd hb (by omega)),Option.bind_some,ce (by omega)]
   show _=bif kd a (F i) x&&kd b (F i) x then _ else _
   cases kd a (F i) x<;>cases kd b (F i) x<;>rfl
  ·show mt a ⟨4,[],0,[b]⟩ D (F i) N (i:Int) (D.length:Int)=_
   rw[Cn,kE,bn,decide_eq_false (Nat.lt_irrefl _),cond_false]
 have hib:∀i:Nat,oT a b true E (F i) N ((2 ^ N.length:Nat):Int) (i:Int) 0=some (if E.any (Q i) then .inl (true,true) else .inr ()):=by
  intro i
  have hl:=(hF i).2.2
  refine l8 (L:=fun j=>oT a b true E (F i) N ((2 ^ N.length:Nat):Int) (i:Int) (j:Int)) (fun j x hx=>?_) ?_
  ·obtain⟨hj,_⟩:=List.getElem?_eq_some_iff.1 hx
   show oT a b true E (F i) N ((2 ^ N.length:Nat):Int) (i:Int) (j:Int)=_
   rw[FC,l7,bn,decide_eq_true hj,cond_true,bM,hx,Option.bind_some,FR ha (by omega),Option.bind_some,FR hb (by omega),Option.bind_some,ce (by omega)]
   show _=bif kd a (F i) x&&kd b (F i) x then _ else _
   cases kd a (F i) x<;>cases kd b (F i) x<;>rfl
  ·show oT a b true E (F i) N ((2 ^ N.length:Nat):Int) (i:Int) (E.length:Int)=_
   rw[FC,l7,bn,decide_eq_false (Nat.lt_irrefl _),cond_false]
 let R:Bool:=(List.range (2 ^ N.length)).any fun i=>E.any (Q i)
 have rl:(List.range (2 ^ N.length)).length=2 ^ N.length:=List.length_range
 refine⟨true,R,by rw[hfew,decide_eq_true h10],?_,fun _=>?_⟩
 ·unfold Dq
  have hL:=l8 (a:=List.range (2 ^ N.length)) (q:=fun i=>E.any (Q i)) (y0:=(Sum.inl (true,true):(Bool×Bool)⊕Unit)) (y1:=.inr ()) (L:=fun i=>oS a b true ((2 ^ N.length:Nat):Int) N E (i:Int))
   (fun i x hx=>by
    obtain⟨hi,hx'⟩:=List.getElem?_eq_some_iff.1 hx
    rw[List.getElem_range] at hx'
    subst hx'
    rw[rl] at hi
    show oS a b true ((2 ^ N.length:Nat):Int) N E (i:Int)=_
    rw[FA,l5,decide_eq_true (by omega),cond_true,(hF i).2.1,iC,hib,ce (by omega)]
    cases E.any (Q i)<;>rfl)
   (by
    rw[rl]
    show oS a b true ((2 ^ N.length:Nat):Int) N E ((2 ^ N.length:Nat):Int)=_
    rw[FA,l5,decide_eq_false (by omega),cond_false])
  rw[a1,Option.bind_some,a2,Option.bind_some,hN,Option.bind_some,decide_eq_false (by simp only[len];omega),cond_false,b1,Option.bind_some,b2,Option.bind_some,show AE .i64 1 (len N)=_ from Fb (by omega),Option.bind_some]
  rw[show oS a b true ((2 ^ N.length:Nat):Int) N E 0=_ from hL]
  show _=some (R,true)
  show bg (some (if R=true then _ else _)) _=_
  cases R<;>rfl
 ·unfold tf Ey
  have hL:=l8 (a:=List.range (2 ^ N.length)) (q:=fun i=>E.any (Q i)) (y0:=(Sum.inl false:Bool⊕Unit)) (y1:=.inr ()) (L:=fun i=>mr a ⟨4,[],0,[b]⟩ N D (i:Int))
   (fun i x hx=>by
    obtain⟨hi,hx'⟩:=List.getElem?_eq_some_iff.1 hx
    rw[List.getElem_range] at hx'
    subst hx'
    rw[rl] at hi
    show mr a ⟨4,[],0,[b]⟩ N D (i:Int)=_
    rw[Cm,kD,show IntKind.u64.wrap (len N)=_ from AH (by omega),Fb (by omega),Option.bind_some,decide_eq_true (by omega),cond_true,(hF i).1,Option.bind_some,hsb,hany,ce (by omega)]
    cases E.any (Q i)<;>rfl)
   (by
    rw[rl]
    show mr a ⟨4,[],0,[b]⟩ N D ((2 ^ N.length:Nat):Int)=_
    rw[Cm,kD,show IntKind.u64.wrap (len N)=_ from AH (by omega),Fb (by omega),Option.bind_some,decide_eq_false (by omega),cond_false])
  rw[e1,Option.bind_some,Qa e2,Option.bind_some,f1,Option.bind_some,Sm f2,Option.bind_some,f3,Option.bind_some]
  rw[show mr a ⟨4,[],0,[b]⟩ N D 0=_ from hL]
  show (bg (some (if R=true then _ else _)) _).bind _=some R
  cases R<;>rfl
theorem un (k0:Int):∀(n:Nat) (k:Int) (s:ac),k<((10 ^ n:Nat):Int)→k<9223372036854775808→s.length+n≤100→∃r,rX k0 (k,s)=some (.inr r)∧r.length≤100
 | 0,k,s,hk,hb,hs=>by
  rw[Bd,kt,decide_eq_false (show ¬k>0 by simp at hk;omega),cond_false]
  exact⟨_,rfl,by show s.length≤100;omega⟩
 | n+1,k,s,hk,hb,hs=>by
  rw[Bd,kt]
  by_cases h:k>0
  ·rw[decide_eq_true h,cond_true]
   unfold Ae
   have h10:k.tdiv 10=k / 10:=Int.tdiv_eq_ediv_of_nonneg (by omega)
   rw[if_pos (by simp only[List.length_map,List.length_cons,List.length_nil];omega),Option.bind_some,h10,eH (by omega) (by omega)]
   refine un k0 n (k / 10) _ ?_ (by omega) (by simp only[List.length_append,List.length_map,List.length_cons,List.length_nil];omega)
   rw[Nat.pow_succ] at hk
   omega
  ·rw[decide_eq_false h,cond_false]
   exact⟨_,rfl,by show s.length≤100;omega⟩
theorem Gi (k:Int)(h:k≤4611686018427387904):∃r,mP k=some r:=by
 unfold mP
 by_cases h0:k≤0
 ·rw[decide_eq_true h0,cond_true]
  exact⟨_,rfl⟩
 ·rw[decide_eq_false h0,cond_false]
  obtain⟨r,hr,hl⟩:=un k 19 k [] (by omega) (by omega) (by decide)
  rw[hr]
  show ∃r',(Ae [109] r).bind (fun s5=>some s5)=some r'
  unfold Ae
  rw[if_pos (by simp only[List.length_cons,List.length_nil];omega),Option.bind_some]
  exact⟨_,rfl⟩
noncomputable def o8 (k:Int):ac:=(mP k).getD []
theorem jW {k:Int}(h:k≤4611686018427387904):mP k=some (o8 k):=by
 obtain⟨r,hr⟩:=Gi k h
 unfold o8
 rw[hr]
 rfl
noncomputable def vU (k:Int)(e:ac):Int×ac:=(k+1,o8 k)
theorem Ji (a:List ac)(ha:a.length≤1048576){k:Int}(h0:0≤k)(hM:k≤4000000000000000000):∃k' a',yT a k=some (k',a')∧a'.length=a.length∧k≤k'∧k'≤k+1048576:=by
 have h1:=nt (g:=vU) (fun k x=>by show k≤k+1;omega) (xs:=a) (k:=k)
 have h2:=Ap (g:=vU) (c:=1) (fun k x=>by show k+1≤k+(1:Nat);omega) (xs:=a) (k:=k)
 refine⟨(dI vU k a).1,(dI vU k a).2,?_,o7,h1,by omega⟩
 unfold yT
 rw[Jg (L:=rU a k) (g:=vU) (M:=4611686018427387904) (fun k x=>by show k≤k+1;omega) ?_ ?_ h0 (by omega) (by omega)]
 ·show (bif Nat.beq (dI vU k a).2.length a.length then some ((dI vU k a).1,(dI vU k a).2) else none)=_
  rw[o7,Nat.beq_refl]
  rfl
 ·intro k i xs e h0 h1 hi he
  have h1':k+1≤4611686018427387904:=h1
  obtain⟨hi',_⟩:=List.getElem?_eq_some_iff.1 he
  have w1:aj (k+1)=k+1:=eH (by omega) (by omega)
  rw[Ba,ks,bn,decide_eq_true hi',cond_true,jW (by omega),Option.bind_some,bM,he,Option.bind_some,om,w1,ce (by omega)]
  rfl
 ·intro k i xs hi
  rw[Ba,ks,bn,decide_eq_false (show ¬i<xs.length by omega),cond_false]
def Ml (a:List Condition):Prop:=∀k:Int,0≤k→k+((3*aB a:Nat):Int)≤4611686018427387000→∃k' a',LK a k=some (k',a')∧a'.length=a.length∧k≤k'∧k'≤k+((3*aB a:Nat):Int)
theorem MS (a:List Condition)(ha:a.length≤1048576)(ih:∀x∈a,Ml x.Parts):Ml a:=by
 intro k h0 hM
 rw[TP]
 unfold rS
 obtain⟨y,⟨k',a',rfl,e1,e2,e3⟩,h2⟩:=iE (L:=fun i (s:Int×List Condition)=>lg (aA kq) a k (s.1,(i:Int),s.2)) a.length
  (fun i s=>k≤s.1∧s.1≤k+((3*aB (a.take i):Nat):Int)∧s.2.length=a.length∧∀j,i≤j→s.2[j]?=a[j]?)
  (fun y=>∃k' a',y=.inr (k',a')∧a'.length=a.length∧k≤k'∧k'≤k+((3*aB a:Nat):Int)) (s:=(k,a))
  (by
   rintro i ⟨q,xs⟩ hi ⟨j1,j2,j3,j4⟩
   simp only at j1 j2 j3 j4
   have h3:=mJ a i hi
   have h4:=iI a (i+1)
   have h5:=ed a[i]
   have he:xs[i]?=some a[i]:=by rw[j4 i (Nat.le_refl _)];exact List.getElem?_eq_getElem hi
   have hi':i<xs.length:=by omega
   obtain⟨k',p',f1,f2,f3,f4⟩:=ih _ (List.getElem_mem hi) (q+3) (by omega) (by omega)
   have w1:aj (q+1)=q+1:=eH (by omega) (by omega)
   have w2:aj (q+1+1)=q+2:=by rw[eH (by omega) (by omega)];omega
   have w3:aj (q+2+1)=q+3:=by rw[eH (by omega) (by omega)];omega
   refine .inl ⟨(k',xs.set i ⟨q,o8 (q+1),q+2,p'⟩),⟨by simp only;omega,by simp only;omega,by simpa using j3,fun j hj=>?_⟩,?_⟩
   ·rw[List.getElem?_set_ne (by omega)];exact j4 j (by omega)
   ·show lg (aA kq) a k (q,(i:Int),xs)=_
    rw[AZ,jr]
    simp only[bn,decide_eq_true hi',cond_true,fU,bM,om,he,Option.bind_some,w1,w2,w3,jW (show q+1≤4611686018427387904 by omega),List.getElem?_set_self,List.length_set,hi',decide_true,List.set_set]
    rw[show aA kq (a[i].Parts,q+3)=_ from f1,Option.bind_some]
    simp only[f2,Nat.beq_refl,cond_true,ce (show i<9223372036854775807 by omega)])
  (by
   rintro⟨q,xs⟩ ⟨j1,j2,j3,j4⟩
   simp only at j1 j2 j3 j4
   rw[List.take_length] at j2
   refine⟨_,⟨q,xs,rfl,j3,j1,j2⟩,?_⟩
   show lg (aA kq) a k (q,(a.length:Int),xs)=_
   rw[AZ,jr]
   simp only[bn,decide_eq_false (show ¬a.length<xs.length by omega),cond_false])
  ⟨Int.le_refl k,by simp[aB],rfl,fun _ _=>rfl⟩
 refine⟨k',a',?_,e1,e2,e3⟩
 rw[show lg (aA kq) a k (k,0,a)=some (.inr (k',a')) from h2,ft]
 simp only[e1,Nat.beq_refl,cond_true]
theorem MT (c:Condition):aB c.Parts≤1048576→Ml c.Parts:=by
 refine ep (P:=fun c=>aB c.Parts≤1048576→Ml c.Parts) ?_ c
 intro c ih h
 have hl:=eW c.Parts
 refine MS c.Parts (by omega) fun x hx=>ih x hx ?_
 obtain⟨i,hi,rfl⟩:=List.mem_iff_getElem.1 hx
 have h1:=WL hi
 have h2:=ed c.Parts[i]
 omega
theorem Jh (a:List Clause)(ha:lD fZ a){k:Int}(h0:0≤k)(hM:k≤1099511627776):∃k' a',yM a k=some (k',a')∧a'.length=a.length∧k≤k'∧k'≤k+4000000*1048576:=by
 have hal:a.length≤1048576:=ha.1
 unfold yM
 obtain⟨y,⟨k',a',rfl,e1,e2,e3⟩,h2⟩:=iE (L:=fun i (s:Int×List Clause)=>mj a k (s.1,(i:Int),s.2)) a.length
  (fun i s=>k≤s.1∧s.1≤k+4000000*(i:Int)∧s.2.length=a.length∧∀j,i≤j→s.2[j]?=a[j]?)
  (fun y=>∃k' a',y=.inr (k',a')∧a'.length=a.length∧k≤k'∧k'≤k+4000000*1048576) (s:=(k,a))
  (by
   rintro i ⟨q,xs⟩ hi ⟨j1,j2,j3,j4⟩
   simp only at j1 j2 j3 j4
   have he:xs[i]?=some a[i]:=by rw[j4 i (Nat.le_refl _)];exact List.getElem?_eq_getElem hi
   have hi':i<xs.length:=by omega
   have hs:=(fF _).1 (ha.2 _ (List.getElem_mem hi)).2.2.2.2.2.2.1
   have hnc:=hs.2.2.2.2
   obtain⟨k',p',f1,f2,f3,f4⟩:=MT a[i].When hnc (q+9) (by omega) (by omega)
   have w1:aj (q+1)=q+1:=eH (by omega) (by omega)
   have w2:aj (q+1+1)=q+2:=by rw[eH (by omega) (by omega)];omega
   have w3:aj (q+2+1)=q+3:=by rw[eH (by omega) (by omega)];omega
   have w4:aj (q+3+1)=q+4:=by rw[eH (by omega) (by omega)];omega
   have w5:aj (q+4+1)=q+5:=by rw[eH (by omega) (by omega)];omega
   have w6:aj (q+5+1)=q+6:=by rw[eH (by omega) (by omega)];omega
   have w7:aj (q+6+1)=q+7:=by rw[eH (by omega) (by omega)];omega
   have w8:aj (q+7+1)=q+8:=by rw[eH (by omega) (by omega)];omega
   have w9:aj (q+8+1)=q+9:=by rw[eH (by omega) (by omega)];omega
   have wa:aj (k'+1)=k'+1:=eH (by omega) (by omega)
   have wb:aj (k'+1+1)=k'+2:=by rw[eH (by omega) (by omega)];omega
   refine .inl ⟨(k'+2,xs.set i ⟨o8 q,q+1,q+2,o8 (q+3),q+4,q+5,⟨q+6,o8 (q+7),q+8,p'⟩,k',o8 (k'+1)⟩),⟨by simp only;omega,by simp only;omega,by simpa using j3,fun j hj=>?_⟩,?_⟩
   ·rw[List.getElem?_set_ne (by omega)];exact j4 j (by omega)
   ·show mj a k (q,(i:Int),xs)=_
    rw[AY,ko]
    simp only[bn,decide_eq_true hi',cond_true,fU,bM,om,he,Option.bind_some,w1,w2,w3,w4,w5,w6,w7,w8,w9,jW (show q≤4611686018427387904 by omega),jW (show q+3≤4611686018427387904 by omega),jW (show q+7≤4611686018427387904 by omega),List.getElem?_set_self,List.length_set,hi',decide_true,List.set_set,f1,f2,Nat.beq_refl,wa,wb,jW (show k'+1≤4611686018427387904 by omega),ce (show i<9223372036854775807 by omega)])
  (by
   rintro⟨q,xs⟩ ⟨j1,j2,j3,j4⟩
   simp only at j1 j2 j3 j4
   refine⟨_,⟨q,xs,rfl,j3,j1,by omega⟩,?_⟩
   show mj a k (q,(a.length:Int),xs)=_
   rw[AY,ko]
   simp only[bn,decide_eq_false (show ¬a.length<xs.length by omega),cond_false])
  ⟨Int.le_refl k,by omega,rfl,fun _ _=>rfl⟩
 refine⟨k',a',?_,e1,e2,e3⟩
 rw[show mj a k (k,0,a)=some (.inr (k',a')) from h2,ft]
 simp only[e1,Nat.beq_refl,cond_true]
theorem Gj (c:Contract)(hc:fN c){k:Int}(h0:0≤k)(hM:k≤1000000):∃k',yP c k=some k'∧k≤k'∧k'≤5000000000000:=by
 unfold yP
 obtain⟨k1,a1,e1,l1,b1,b2⟩:=Ji c.Parties hc.1.1 h0 (by omega)
 obtain⟨k2,a2,e2,l2,b3,b4⟩:=Jh c.Clauses hc.2 (k:=k1) (by omega) (by omega)
 refine⟨k2,?_,by omega,?_⟩
 ·rw[e1,Option.bind_some]
  simp only[l1,Nat.beq_refl,cond_true,e2,Option.bind_some,l2]
 ·omega
noncomputable def ka (k:Int)(e:Int):Int×Int:=(k+1,k)
theorem P5 (a:List Int)(ha:a.length≤1048576){k:Int}(h0:0≤k)(hM:(dI ka k a).1≤4611686018427387904):yR a k=some (dI ka k a):=by
 unfold yR
 rw[Jg (L:=rT a k) (g:=ka) (M:=4611686018427387904) (fun k x=>by show k≤k+1;omega) ?_ ?_ h0 hM (by omega)]
 ·show (bif Nat.beq (dI ka k a).2.length a.length then some ((dI ka k a).1,(dI ka k a).2) else none)=_
  rw[o7,Nat.beq_refl]
  rfl
 ·intro k i xs e h0 h1 hi he
  have h1':k+1≤4611686018427387904:=h1
  obtain⟨hi',_⟩:=List.getElem?_eq_some_iff.1 he
  have w1:aj (k+1)=k+1:=eH (by omega) (by omega)
  rw[A7,kr,bn,decide_eq_true hi',cond_true]
  simp only[fU,bM,om,he,Option.bind_some,w1,List.getElem?_set_self,List.length_set,hi',List.set_set,ce (show i<9223372036854775807 by omega)]
  rfl
 ·intro k i xs hi
  rw[A7,kr,bn,decide_eq_false (show ¬i<xs.length by omega),cond_false]
theorem PS (a:List Int)(ha:a.length≤1048576){k:Int}(h0:0≤k)(hM:(dI ka k a).1≤4611686018427387904):uA (dI ka k a).2 k=some (dI ka k a).1:=by
 unfold uA
 rw[Sx (H:=rR (dI ka k a).2 k) (g:=ka) (M:=4611686018427387904) (a:=(dI ka k a).2) (xs:=a) (fun k x=>by show k≤k+1;omega) ?_ ?_ h0 hM (by omega) rfl]
 ·rfl
 ·intro k' i e h0 h1 hi he
  have h1':k'+1≤4611686018427387904:=h1
  obtain⟨hi',_⟩:=List.getElem?_eq_some_iff.1 he
  have w1:aj (k'+1)=k'+1:=eH (by omega) (by omega)
  rw[AV,kn,bn,decide_eq_true hi',cond_true]
  simp only[bM,he,Option.bind_some,w1,ce (show i<9223372036854775807 by omega),ka,bne_self_eq_false,beq_self_eq_true,Bool.not_true,cond_false]
 ·intro k' i hi
  rw[AV,kn,bn,decide_eq_false (by omega),cond_false]
theorem SK (a:List Int)(ha:a.length≤1048576):1≤(dI ka 1 a).1∧(dI ka 1 a).1≤4611686018427387904:=by
 have h1:=nt (g:=ka) (fun k x=>by show k≤k+1;omega) (xs:=a) (k:=1)
 have h2:=Ap (g:=ka) (c:=1) (fun k x=>by show k+1≤k+(1:Nat);omega) (xs:=a) (k:=1)
 omega
def kf (p:Nat→Bool):Nat→List Int
 | 0=>[]
 | n+1=>kf p n++(bif p n then [(n:Int)] else [])
theorem we (p:Nat→Bool):∀n,(kf p n).length≤n
 | 0=>Nat.le_refl _
 | n+1=>by
  have:=we p n
  rw[kf,List.length_append]
  cases p n<;>simp<;>omega
theorem SP {ρ:Type}{L:Nat→List Int→Option (ρ⊕List Int)}(n:Nat)(hn:n≤1048576)(p:Nat→Bool)(hS:∀i out,i<n→out.length≤i→L i out=bif p i then ((fy 8 out [(i:Int)]).bind fun a=>L (i+1) a) else L (i+1) out)(hE:∀out,L n out=some (.inr out)):L 0 []=some (.inr (kf p n)):=by
 obtain⟨y,h1,h2⟩:=iE (L:=L) n (fun i s=>s=kf p i) (fun y=>y=.inr (kf p n)) (s:=[])
  (by
   rintro i s hi rfl
   have hl:=we p i
   refine .inl ⟨kf p (i+1),rfl,?_⟩
   rw[hS i _ hi hl,kf]
   cases p i with
   | true=>rw[cond_true,kO (by omega) (by omega)];rfl
   | false=>rw[cond_false,cond_false,List.append_nil])
  (by rintro s rfl;exact⟨_,rfl,hE _⟩) rfl
 rw[h2,h1]
theorem xe {c:Contract}(h:je c=true){e:Clause}(he:e∈c.Clauses):d3 e.When=true∧aH e.When≤15:=by
 obtain⟨i,hi,rfl⟩:=List.mem_iff_getElem.1 he
 have h1:=vN ((jf h).2.2.2 _ _ (List.getElem?_eq_getElem hi)).2
 simp only[ox,Bool.and_eq_true,decide_eq_true_eq] at h1
 exact h1
noncomputable def vS (a b:Condition):Bool:=(ri a b).getD false
noncomputable def DU (a b:Condition):Bool:=(tf a b).getD false
theorem Jj {a b:Condition}(ha:d3 a=true∧aH a≤15)(hb:d3 b=true∧aH b≤15):ri a b=some (vS a b)∧(vS a b=true→tf a b=some (DU a b))∧Dq a b true=some (bif vS a b then (DU a b,true) else (false,false)):=by
 obtain⟨few,r,h1,h2,h3⟩:=U0 a b ha.1 hb.1 (by omega) (by omega)
 have hf:vS a b=few:=by unfold vS;rw[h1];rfl
 rw[hf]
 cases few with
 | false=>exact⟨h1,fun h=>by simp at h,h2⟩
 | true=>
  have hm:DU a b=r:=by unfold DU;rw[h3 rfl];rfl
  rw[hm]
  exact⟨h1,fun _=>h3 rfl,h2⟩
def fw (c:Contract)(x:Clause)(kind:Int)(i:Nat):Bool:=match c.Clauses[i]? with
 | some e=>(e.Kind==kind)&&((e.Party==x.Party)&&(e.Action==x.Action))
 | none=>false
noncomputable def lE (c:Contract)(x:Clause)(i:Nat):Bool:=match c.Clauses[i]? with
 | some e=>vS x.When e.When
 | none=>true
noncomputable def gM (c:Contract)(x:Clause)(i:Nat):Bool:=match c.Clauses[i]? with
 | some e=>DU x.When e.When
 | none=>false
theorem FZ (p:Nat→Bool):∀{n:Nat} {x:Int},x∈kf p n↔∃i,i<n∧p i=true∧x=(i:Int)
 | 0,x=>by simp[kf]
 | n+1,x=>by
  rw[kf,List.mem_append,FZ p]
  constructor
  ·rintro (⟨i,h1,h2,h3⟩ | h)
   ·exact⟨i,by omega,h2,h3⟩
   ·cases hp:p n with
    | true=>rw[hp,cond_true,List.mem_singleton] at h;exact⟨n,by omega,hp,h⟩
    | false=>rw[hp] at h;simp at h
  ·rintro⟨i,h1,h2,h3⟩
   rcases Nat.lt_or_eq_of_le (Nat.le_of_lt_succ h1) with h4 | rfl
   ·exact .inl ⟨i,h4,h2,h3⟩
   ·exact .inr (by rw[h2,cond_true,h3];simp)
theorem IL (a b:Int):(a==b)=(b==a):=by
 by_cases h:a=b
 ·rw[h]
 ·rw[beq_eq_false_iff_ne.2 h,beq_eq_false_iff_ne.2 (Ne.symm h)]
theorem IM (a b:ac):(a==b)=(b==a):=by
 by_cases h:a=b
 ·rw[h]
 ·rw[beq_eq_false_iff_ne.2 h,beq_eq_false_iff_ne.2 (Ne.symm h)]
theorem SX (c:Contract)(h:je c=true)(x:Clause)(hx:x∈c.Clauses)(kind:Int) :
  ∃y:Int⊕Int,jQ c x kind (0,0)=some y∧((y=.inl (-1)∧∃i,i<c.Clauses.length∧fw c x kind i=true∧lE c x i=false)∨
   ((∀i,i<c.Clauses.length→fw c x kind i=true→lE c x i=true)∧((y=.inr 1∧∃i,i<c.Clauses.length∧fw c x kind i=true∧gM c x i=true)∨(y=.inr 0∧∀i,i<c.Clauses.length→fw c x kind i=true→gM c x i=false)))):=by
 have h12:=(jf h).2.1
 obtain⟨y,hy,hr⟩:=iE (L:=fun i (v:Int)=>jQ c x kind (v,(i:Int))) c.Clauses.length
  (fun n v=>(∀i,i<n→fw c x kind i=true→lE c x i=true)∧((v=1∧∃i,i<n∧fw c x kind i=true∧gM c x i=true)∨(v=0∧∀i,i<n→fw c x kind i=true→gM c x i=false)))
  (fun y=>(y=.inl (-1)∧∃i,i<c.Clauses.length∧fw c x kind i=true∧lE c x i=false)∨
   ((∀i,i<c.Clauses.length→fw c x kind i=true→lE c x i=true)∧((y=.inr 1∧∃i,i<c.Clauses.length∧fw c x kind i=true∧gM c x i=true)∨(y=.inr 0∧∀i,i<c.Clauses.length→fw c x kind i=true→gM c x i=false)))) (s:=0)
  (by
   rintro n v hn ⟨j1,j2⟩
   have he:=List.getElem?_eq_getElem hn
   obtain⟨m1,m2,m3⟩:=Jj (xe h hx) (xe h (List.getElem_mem hn))
   have hst:jQ c x kind (v,(n:Int))=bif fw c x kind n then (bif lE c x n then jQ c x kind (bif gM c x n then 1 else v,((n+1:Nat):Int)) else some (.inl (-1))) else jQ c x kind (v,((n+1:Nat):Int)):=by
    rw[B0,kz]
    simp only[bn,decide_eq_true hn,cond_true,bM,he,Option.bind_some,fw,lE,gM,Ev,fU,m1]
    rw[ce (by omega),IL x.Party,IM x.Action]
    cases hk:c.Clauses[n].Kind==kind with
    | false=>rw[bne,hk];rfl
    | true=>
     rw[bne,hk]
     cases c.Clauses[n].Party==x.Party with
     | false=>rfl
     | true=>
      cases c.Clauses[n].Action==x.Action with
      | false=>rfl
      | true=>
       cases hf:vS x.When c.Clauses[n].When with
       | false=>rfl
       | true=>rw[m2 hf];rfl
   cases hl:fw c x kind n with
   | false=>
    refine .inl ⟨v,⟨fun i hi hli=>?_,?_⟩,by rw[hst,hl];rfl⟩
    ·rcases Nat.lt_or_eq_of_le (Nat.le_of_lt_succ hi) with h1 | rfl
     ·exact j1 i h1 hli
     ·rw[hl] at hli;cases hli
    ·rcases j2 with⟨k1,i,k2,k3⟩ | ⟨k1,k2⟩
     ·exact .inl ⟨k1,i,by omega,k3⟩
     ·refine .inr ⟨k1,fun i hi hli=>?_⟩
      rcases Nat.lt_or_eq_of_le (Nat.le_of_lt_succ hi) with h1 | rfl
      ·exact k2 i h1 hli
      ·rw[hl] at hli;cases hli
   | true=>
    cases hf:lE c x n with
    | false=>exact .inr ⟨.inl (-1),.inl ⟨rfl,n,hn,hl,hf⟩,by rw[hst,hl,hf];rfl⟩
    | true=>
     refine .inl ⟨bif gM c x n then 1 else v,⟨fun i hi hli=>?_,?_⟩,by rw[hst,hl,hf];rfl⟩
     ·rcases Nat.lt_or_eq_of_le (Nat.le_of_lt_succ hi) with h1 | rfl
      ·exact j1 i h1 hli
      ·exact hf
     ·cases hm:gM c x n with
      | true=>exact .inl ⟨rfl,n,by omega,hl,hm⟩
      | false=>
       rw[cond_false]
       rcases j2 with⟨k1,i,k2,k3⟩ | ⟨k1,k2⟩
       ·exact .inl ⟨k1,i,by omega,k3⟩
       ·refine .inr ⟨k1,fun i hi hli=>?_⟩
        rcases Nat.lt_or_eq_of_le (Nat.le_of_lt_succ hi) with h1 | rfl
        ·exact k2 i h1 hli
        ·exact hm)
  (by
   rintro v ⟨j1,j2⟩
   refine⟨.inr v,.inr ⟨j1,j2.imp (fun h=>⟨by rw[h.1],h.2⟩) (fun h=>⟨by rw[h.1],h.2⟩)⟩,?_⟩
   show jQ c x kind (v,(c.Clauses.length:Int))=_
   rw[B0,kz]
   simp only[bn,decide_eq_false (Nat.lt_irrefl _),cond_false]) ⟨by simp,.inr ⟨rfl,by simp⟩⟩
 exact⟨y,hr,hy⟩
theorem SI (c:Contract)(h:je c=true)(x:Clause)(kind:Int):Iv c x kind=some (kf (fw c x kind) c.Clauses.length):=by
 have h12:=(jf h).2.1
 have e2:=SP (L:=fun i out=>oO c (c,kind,x) ((i:Int),out)) c.Clauses.length (by omega) (fw c x kind)
  (by
   intro i out hi ho
   have he:=List.getElem?_eq_getElem hi
   show oO c (c,kind,x) ((i:Int),out)=_
   rw[Fw,l3]
   unfold K7
   simp only[bn,decide_eq_true hi,cond_true,bM,he,Option.bind_some,fU,fw,ce (show i<9223372036854775807 by omega)]
   cases c.Clauses[i].Kind==kind<;>cases c.Clauses[i].Party==x.Party<;>cases c.Clauses[i].Action==x.Action<;>simp[ct]<;>cases fy 8 out [(i:Int)]<;>rfl)
  (by
   intro out
   show oO c (c,kind,x) ((c.Clauses.length:Int),out)=_
   rw[Fw,l3]
   simp only[bn,decide_eq_false (Nat.lt_irrefl _),cond_false])
 unfold Iv K6
 rw[show oO c (c,kind,x) (0,[])=_ from e2]
 rfl
theorem Ut (c:Contract)(h:je c=true)(x:Clause)(hx:x∈c.Clauses)(kind:Int) :
  ∃y:(Bool×Bool)⊕Bool,mW c x kind (kf (fw c x kind) c.Clauses.length) (false,0)=some y∧((y=.inl (false,false)∧∃i,i<c.Clauses.length∧fw c x kind i=true∧lE c x i=false)∨
   ((∀i,i<c.Clauses.length→fw c x kind i=true→lE c x i=true)∧((y=.inr true∧∃i,i<c.Clauses.length∧fw c x kind i=true∧gM c x i=true)∨(y=.inr false∧∀i,i<c.Clauses.length→fw c x kind i=true→gM c x i=false)))):=by
 have h12:=(jf h).2.1
 have hpl:=we (fw c x kind) c.Clauses.length
 have hmem:=fun z=>FZ (fw c x kind) (n:=c.Clauses.length) (x:=z)
 generalize hP:kf (fw c x kind) c.Clauses.length=P at hpl hmem ⊢
 obtain⟨y,hy,hr⟩:=iE (L:=fun i (v:Bool)=>mW c x kind P (v,(i:Int))) P.length
  (fun n v=>(∀z∈P.take n,lE c x z.toNat=true)∧((v=true∧∃z∈P,gM c x z.toNat=true)∨(v=false∧∀z∈P.take n,gM c x z.toNat=false)))
  (fun y=>(y=.inl (false,false)∧∃z∈P,lE c x z.toNat=false)∨((∀z∈P,lE c x z.toNat=true)∧((y=.inr true∧∃z∈P,gM c x z.toNat=true)∨(y=.inr false∧∀z∈P,gM c x z.toNat=false)))) (s:=false)
  (by
   rintro n v hn ⟨j1,j2⟩
   have he:=List.getElem?_eq_getElem hn
   have hmn:=List.getElem_mem hn
   obtain⟨i,hi,hli,hzi⟩:=(hmem _).1 hmn
   have hei:=List.getElem?_eq_getElem hi
   obtain⟨m1,m2,m3⟩:=Jj (xe h hx) (xe h (List.getElem_mem hi))
   have hto:P[n].toNat=i:=by rw[hzi];rfl
   have htk:∀z,z∈P.take (n+1)↔z∈P.take n∨z=P[n]:=fun z=>by rw[List.take_add_one,he,List.mem_append];simp
   have hst:mW c x kind P (v,(n:Int))=bif lE c x i then mW c x kind P (v||gM c x i,((n+1:Nat):Int)) else some (.inl (false,false)):=by
    rw[Fu,lY]
    simp only[bn,decide_eq_true hn,cond_true,bM,he,Option.bind_some,fU]
    rw[hzi,bM,hei,Option.bind_some,m3,ce (by omega)]
    simp only[lE,gM,hei]
    cases vS x.When c.Clauses[i].When with
    | false=>rfl
    | true=>cases v<;>rfl
   cases hf:lE c x i with
   | false=>exact .inr ⟨.inl (false,false),.inl ⟨rfl,_,hmn,by rw[hto];exact hf⟩,by rw[hst,hf];rfl⟩
   | true=>
    refine .inl ⟨v||gM c x i,⟨fun z hz=>?_,?_⟩,by rw[hst,hf];rfl⟩
    ·rcases (htk z).1 hz with h1 | rfl
     ·exact j1 z h1
     ·rw[hto];exact hf
    ·rcases j2 with⟨rfl,k2⟩ | ⟨rfl,k2⟩
     ·exact .inl ⟨rfl,k2⟩
     ·cases hm:gM c x i with
      | true=>exact .inl ⟨rfl,_,hmn,by rw[hto];exact hm⟩
      | false=>
       refine .inr ⟨rfl,fun z hz=>?_⟩
       rcases (htk z).1 hz with h1 | rfl
       ·exact k2 z h1
       ·rw[hto];exact hm)
  (by
   rintro v ⟨j1,j2⟩
   rw[List.take_length] at j1 j2
   refine⟨.inr v,.inr ⟨j1,j2.imp (fun h=>⟨by rw[h.1],h.2⟩) (fun h=>⟨by rw[h.1],h.2⟩)⟩,?_⟩
   show mW c x kind P (v,(P.length:Int))=_
   rw[Fu,lY]
   simp only[bn,decide_eq_false (Nat.lt_irrefl _),cond_false]) ⟨by simp,.inr ⟨rfl,by simp⟩⟩
 have hto:∀{i:Nat},i<c.Clauses.length→fw c x kind i=true→(i:Int)∈P:=fun hi hli=>(hmem _).2 ⟨_,hi,hli,rfl⟩
 refine⟨y,hr,?_⟩
 rcases hy with⟨rfl,z,hz,hf⟩ | ⟨hf,hm⟩
 ·obtain⟨i,hi,hli,rfl⟩:=(hmem z).1 hz
  exact .inl ⟨rfl,i,hi,hli,hf⟩
 ·refine .inr ⟨fun i hi hli=>hf _ (hto hi hli),?_⟩
  rcases hm with⟨rfl,z,hz,hm⟩ | ⟨rfl,hm⟩
  ·obtain⟨i,hi,hli,rfl⟩:=(hmem z).1 hz
   exact .inl ⟨rfl,i,hi,hli,hm⟩
  ·exact .inr ⟨rfl,fun i hi hli=>hm _ (hto hi hli)⟩
theorem Sy (c:Contract)(h:je c=true)(x:Clause)(hx:x∈c.Clauses):∃o:Option Bool,zy c x 2=some (match o with | none=>-1 | some true=>1 | some false=>0)∧Ik c x 2=some (match o with | none=>(false,false) | some m=>(m,true)):=by
 obtain⟨y,a1,a2⟩:=SX c h x hx 2
 obtain⟨z,b1,b2⟩:=Ut c h x hx 2
 unfold zy Ik
 rw[a1,SI c h x 2,Option.bind_some,b1]
 rcases a2 with⟨rfl,i,i1,i2,i3⟩ | ⟨i1,⟨rfl,i,i2,i3,i4⟩ | ⟨rfl,i2⟩⟩
 ·rcases b2 with⟨rfl,_⟩ | ⟨j1,_⟩
  ·exact⟨none,rfl,rfl⟩
  ·rw[j1 i i1 i2] at i3;cases i3
 ·rcases b2 with⟨rfl,j,j1,j2,j3⟩ | ⟨_,⟨rfl,_⟩ | ⟨rfl,j2⟩⟩
  ·rw[i1 j j1 j2] at j3;cases j3
  ·exact⟨some true,rfl,rfl⟩
  ·rw[j2 i i2 i3] at i4;cases i4
 ·rcases b2 with⟨rfl,j,j1,j2,j3⟩ | ⟨_,⟨rfl,j,j1,j2,j3⟩ | ⟨rfl,_⟩⟩
  ·rw[i1 j j1 j2] at j3;cases j3
  ·rw[i2 j j1 j2] at j3;cases j3
  ·exact⟨some false,rfl,rfl⟩
theorem Lm (c:Contract)(h:je c=true):∀(k i:Nat) (out:List Int),i+k=c.Clauses.length→out.length≤i→∃y:((List Int)×Bool)⊕List Int,pN c ((i:Int),out)=some y∧rN c ((i:Int),out)=some y∧(match y with | .inl r=>r.1=[] | .inr r=>r.length≤c.Clauses.length)
 | 0,i,out,hi,ho=>by
  refine⟨.inr out,?_,?_,by simp only;omega⟩
  ·rw[BQ,ky]
   simp only[bn,decide_eq_false (show ¬i<c.Clauses.length by omega),cond_false]
  ·rw[Fl,lW]
   simp only[bn,decide_eq_false (show ¬i<c.Clauses.length by omega),cond_false]
 | k+1,i,out,hi,ho=>by
  have h12:=(jf h).2.1
  have hi1:i<c.Clauses.length:=by omega
  have he:=List.getElem?_eq_getElem hi1
  obtain⟨o,q1,q2⟩:=Sy c h c.Clauses[i] (List.getElem_mem hi1)
  have ih:=fun out' (ho':out'.length≤i+1)=>Lm c h k (i+1) out' (by omega) ho'
  rw[BQ,ky,Fl,lW]
  simp only[bn,decide_eq_true hi1,cond_true,bM,he,Option.bind_some,q1,q2,ce (show i<9223372036854775807 by omega)]
  cases c.Clauses[i].Kind != 3 with
  | true=>exact ih out (by omega)
  | false=>
   rcases o with _ | _ | _
   ·exact⟨_,rfl,rfl,rfl⟩
   ·have ha:=kO (b:=8) (xs:=out) (y:=(i:Int)) (by omega) (by omega)
    simp only[cond_false,ha]
    exact ih (out++[(i:Int)]) (by simp;omega)
   ·exact ih out (by omega)
theorem Sz (c:Contract)(hs:fN c):∃r,zr c=some r∧Fk c=some r∧lD nQ r.1:=by
 unfold zr Fk
 rw[Gm c hs,Gh c hs]
 cases h:je c with
 | false=>exact⟨_,rfl,rfl,by simp[lD]⟩
 | true=>
  have h12:=(jf h).2.1
  obtain⟨y,y1,y2,y3⟩:=Lm c h c.Clauses.length 0 [] (by omega) (by simp)
  simp only[Option.bind_some,Bool.not_true,cond_false]
  rw[show pN c (0,[])=_ from y1,show rN c (0,[])=_ from y2]
  cases y with
  | inl r=>exact⟨r,rfl,rfl,by rw[show r.1=[] from y3];simp[lD]⟩
  | inr r=>exact⟨_,rfl,rfl,⟨by have:r.length≤c.Clauses.length:=y3;show r.length≤1048576;omega,fun _ _=>trivial⟩⟩
theorem pi (c:Contract)(hc:Q9 c):d7 c=some true:=by
 unfold d7
 obtain⟨r1,e1,q1⟩:=KL c hc (l:=1048576) (by decide) (by decide)
 rw[e1,Option.bind_some]
 rcases q1 with q1 | ⟨q1,p1,s1⟩
 ·rw[decide_eq_true q1,cond_true]
 rw[decide_eq_false (by omega),cond_false]
 obtain⟨v,g1,g2,s3⟩:=Sz c s1
 obtain⟨km,m1,m2,m3⟩:=Gj c s1 (k:=1) (by decide) (by decide)
 obtain⟨m4,m5⟩:=SK v.1 s3.1
 simp only[KM c s1,Option.bind_some,g1,g2,Kz c s1,UJ v.1 s3,fU,bne_self_eq_false,beq_self_eq_true,Bool.not_true,cond_false,m1,P5 v.1 s3.1 (by decide) m5,PS v.1 s3.1 (by decide) m5,o7,Nat.beq_refl,cond_true,decide_eq_false (show ¬km<0 by omega),decide_eq_false (show ¬(dI ka 1 v.1).1<0 by omega),bg]
end Go.Ln
