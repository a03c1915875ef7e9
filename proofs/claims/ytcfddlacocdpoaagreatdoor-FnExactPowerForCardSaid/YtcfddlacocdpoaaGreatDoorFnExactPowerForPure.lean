/-
  The plain law.
-/
import Derived.Test.YtcfddlacocdpoaaGreatDoorFnExactPowerForLib
import Derived.Sort.AssemblyPlain
import Derived.Sort.LotD4
import Derived.Sort.LotD5
set_option linter.unusedVariables false
set_option linter.unusedSimpArgs false
set_option maxRecDepth 100000
namespace Go.Ln
open Go
theorem A9 {α:Type}{b:Nat}{xs:List α}{y:α}(h:(xs.length+1)*b≤1099511627776)(h2:xs.length+1≤1099511627776):ix b xs [y]=some (xs++[y]):=by
 unfold ix
 rw[if_pos]
 simp only[List.length_cons,List.length_nil,ke,Nat.zero_add]
 omega
namespace StrL
theorem lt_irrefl:∀(a:aa),Op.bytesLess a a=false
 | []=>rfl
 | x::xs=>by
  have h:¬x<x:=by simp
  simp[Op.bytesLess,h,lt_irrefl xs]
theorem lt_trans:∀(a b c:aa),Op.bytesLess a b=true→Op.bytesLess b c=true→Op.bytesLess a c=true
 | _,[],_,h,_=>by simp[Op.bytesLess] at h
 | _,_::_,[],_,h=>by simp[Op.bytesLess] at h
 | [],_::_,_::_,_,_=>rfl
 | x::xs,y::ys,z::zs,h1,h2=>by
  simp only[Op.bytesLess,Bool.or_eq_true,decide_eq_true_eq,Bool.and_eq_true,beq_iff_eq] at h1 h2 ⊢
  rcases h1 with h1 | ⟨h1,h3⟩<;>rcases h2 with h2 | ⟨h2,h4⟩
  ·exact .inl (UInt8.lt_trans h1 h2)
  ·subst h2;exact .inl h1
  ·subst h1;exact .inl h2
  ·subst h1;subst h2;exact .inr ⟨rfl,lt_trans xs ys zs h3 h4⟩
def Lt (a b:aa):Prop:=Op.bytesLess a b=true
theorem tri (a b:aa):Lt a b∨a=b∨Lt b a:=by
 have:=KF a b
 unfold Lt
 cases h:Op.bytesLess a b
 ·cases h2:a==b
  ·rw[h,h2] at this;exact .inr (.inr this.symm)
  ·exact .inr (.inl (by simpa using h2))
 ·exact .inl rfl
theorem Lt.irrefl {a:aa}(h:Lt a a):False:=by unfold Lt at h;rw[lt_irrefl] at h;cases h
theorem Lt.trans {a b c:aa}(h:Lt a b)(h2:Lt b c):Lt a c:=lt_trans a b c h h2
theorem Lt.asymm {a b:aa}(h:Lt a b)(h2:Lt b a):False:=(h.trans h2).irrefl
def Le (a b:aa):Prop:=¬Lt b a
theorem Le.lt_or {a b:aa}(h:Le a b):Lt a b∨a=b:=by
 rcases tri a b with h1 | h1 | h1
 ·exact .inl h1
 ·exact .inr h1
 ·exact (h h1).elim
theorem Le.trans {a b c:aa}(h:Le a b)(h2:Le b c):Le a c:=by
 intro h3
 rcases h.lt_or with h4 | rfl
 ·rcases h2.lt_or with h5 | rfl
  ·exact (h4.trans h5).asymm h3
  ·exact h h3
 ·exact h2 h3
theorem Lt.le {a b:aa}(h:Lt a b):Le a b:=fun h2=>h.asymm h2
theorem Lt.ne {a b:aa}(h:Lt a b):a≠b:=fun e=>by subst e;exact h.irrefl
theorem Le.le_lt {a b c:aa}(h:Le a b)(h2:Lt b c):Lt a c:=by
 rcases h.lt_or with h3 | rfl
 ·exact h3.trans h2
 ·exact h2
end StrL
namespace StrL
def f8 (a:List aa)(j:Nat):Bool:=match j with
 | 0=>true
 | j+1=>match a[j]?,a[j+1]? with
  | some x,some y=>y != x
  | _,_=>true
def dd (a:List aa):List aa:=kK (f8 a) a a.length
theorem GA {a:List aa}{k:Nat}(h:∀j x y,j+1<k→a[j]?=some x→a[j+1]?=some y→y≠x)(hn:k≤a.length):kK (f8 a) a k=a.take k:=by
 have e:∀n,n≤k→kK (f8 a) a n=a.take n:=by
  intro n
  induction n with
  | zero=>intro _;rfl
  | succ n ih=>
   intro hk
   have h1:n<a.length:=by omega
   have hx:=List.getElem?_eq_getElem h1
   rw[Bf ?_ hx,ih (by omega),List.take_add_one,hx]
   ·rfl
   ·cases n with
    | zero=>rfl
    | succ n=>
     have h2:=List.getElem?_eq_getElem (show n<a.length by omega)
     simp only[f8,h2,hx]
     simpa using h n _ _ (by omega) h2 hx
 exact e k (Nat.le_refl k)
theorem MG {s z:List aa}{x j:Nat}(h1:x≤j)(h2:j<s.length):ub z (0+Int.toNat (x:Int)) (Int.toNat (len s) - Int.toNat (x:Int)) ((j:Int) - (x:Int))=z[j]?:=by
 unfold ub
 simp only[len,Int.toNat_natCast,Nat.zero_add]
 rw[if_pos (by omega),show x+((j:Int) - (x:Int)).toNat=j by omega]
theorem Kh (s:List aa)(x:Nat)(hl:s.length≤1048576)(hx:x<s.length)(h0:kK (f8 s) s (x+1)=s.take x):∃(i:Nat) (z:List aa),jO s (x:Int) ((x:Int),1,s)=some (.inr ((i:Int),z))∧z.length=s.length∧i≤z.length∧z.take i=dd s:=by
 have hD:=XI (L:=fun q:Int×Int×List aa=>jO s (x:Int) (q.1,q.2.1 - (x:Int),q.2.2)) (keep:=f8 s) (a:=s) (i0:=x)
  (by
   intro i j z y hz hi hij hy hy2 hy3
   obtain⟨h1,_⟩:=List.getElem?_eq_some_iff.1 hy
   have h2:=List.getElem?_eq_getElem (show j - 1<s.length by omega)
   have h4:=List.getElem?_eq_getElem (show i<z.length by omega)
   show jO s (x:Int) ((i:Int),(j:Int) - (x:Int),z)=bif f8 s j then jO s (x:Int) (((i+1:Nat):Int),((j+1:Nat):Int) - (x:Int),z.set i y) else jO s (x:Int) ((i:Int),((j+1:Nat):Int) - (x:Int),z)
   have w1:az ((j:Int) - (x:Int) - 1)=((j - 1:Nat):Int) - (x:Int):=by rw[jN (by omega) (by omega)];omega
   have w2:az ((j:Int) - (x:Int)+1)=((j+1:Nat):Int) - (x:Int):=by rw[jN (by omega) (by omega)];omega
   have c1:decide ((j:Int) - (x:Int)<(((Int.toNat (len s) - Int.toNat (x:Int)):Nat):Int))=true:=decide_eq_true (by simp only[len,Int.toNat_natCast];omega)
   rw[C0,ko]
   simp only[c1,cond_true,w1,w2,MG (show x≤j by omega) h1,MG (show x≤j - 1 by omega) (show j - 1<s.length by omega),hy2,hy3,h2,Option.bind_some,ct,K1,h4,dD (show i<9223372036854775807 by omega)]
   have hk:f8 s j=(y != s[j - 1]):=by
    cases j with
    | zero=>omega
    | succ j=>
     simp only[f8,hy,show j+1 - 1=j by omega] at h2 ⊢
     simp only[h2]
   rw[hk]
   show _=bif !(y==s[j - 1]) then _ else _
   cases y==s[j - 1]<;>rfl)
  (by
   intro i j z hz hi hij hj
   show jO s (x:Int) ((i:Int),(j:Int) - (x:Int),z)=_
   have c1:decide ((j:Int) - (x:Int)<(((Int.toNat (len s) - Int.toNat (x:Int)):Nat):Int))=false:=decide_eq_false (by simp only[len,Int.toNat_natCast];omega)
   rw[C0,ko]
   simp only[c1,cond_false])
  h0 hx
 simp only[show ((x+1:Nat):Int) - (x:Int)=1 by omega] at hD
 exact hD
theorem wa (s:List aa)(hl:s.length≤1048576):∀(n k:Nat),k+n=s.length→1≤k→(∀j x y,j+1<k→s[j]?=some x→s[j+1]?=some y→y≠x)→∃y,pM s (k:Int)=some y∧(y=.inl (dd s)∨y=.inr (dd s))
 | 0,k,hk,h1,h=>by
  refine⟨.inr s,?_,.inr ?_⟩
  ·rw[CZ,kn,cg,decide_eq_false (by omega),cond_false]
  ·unfold dd
   rw[GA (k:=s.length) (fun j x y hj=>h j x y (by omega)) (Nat.le_refl _),List.take_length]
 | n+1,k,hk,h1,h=>by
  have h2:k<s.length:=by omega
  have e1:=List.getElem?_eq_getElem h2
  have e2:=List.getElem?_eq_getElem (show k - 1<s.length by omega)
  have w1:az ((k:Int) - 1)=((k - 1:Nat):Int):=by rw[jN (by omega) (by omega)];omega
  rw[CZ,kn,cg,decide_eq_true h2,cond_true,w1,ct,ct,e1,e2,Option.bind_some,Option.bind_some,dD (by omega)]
  by_cases hq:s[k]=s[k - 1]
  ·rw[beq_iff_eq.2 hq,cond_true]
   have e3:iK s.length (k:Int) (len s)=some ():=by unfold iK;rw[if_pos (by simp only[len];omega)]
   have hno:f8 s k=false:=by
    cases k with
    | zero=>omega
    | succ k=>
     simp only[show k+1 - 1=k by omega] at e2 hq
     simp only[f8,e1,e2,hq,bne_self_eq_false]
   obtain⟨i,z,e,hz,hi,ht⟩:=Kh s k hl h2 (by rw[GE hno,GA h (by omega)])
   rw[e3,Option.bind_some,e,gv]
   refine⟨.inl (dd s),?_,.inl rfl⟩
   rw[←ht]
   exact ab5 (c:=([]:aa)) (F:=fun p19=>some (Sum.inl p19)) hi
  ·rw[beq_eq_false_iff_ne.2 hq,cond_false]
   refine wa s hl n (k+1) (by omega) (by omega) fun j x y hj hx hy=>?_
   by_cases hj2:j+1<k
   ·exact h j x y hj2 hx hy
   ·obtain rfl:k=j+1:=by omega
    simp only[show j+1 - 1=j by omega] at e2 hq
    rw[e2] at hx
    rw[e1] at hy
    cases hx
    cases hy
    exact hq
theorem compact_val (s:List aa)(hl:s.length≤1048576):zT s=some (dd s):=by
 unfold zT
 by_cases h:len s<2
 ·rw[decide_eq_true h,cond_true]
  have h':s.length<2:=by simp only[len] at h;omega
  unfold dd
  rw[GA (k:=s.length) (fun j x y hj=>by omega) (Nat.le_refl _),List.take_length]
 ·rw[decide_eq_false h,cond_false]
  have h':¬s.length<2:=by simp only[len] at h;omega
  obtain⟨y,hy,hq⟩:=wa s hl (s.length - 1) 1 (by omega) (Nat.le_refl _) (fun j x y hj=>by omega)
  rw[show pM s 1=some y from hy]
  rcases hq with rfl | rfl<;>rfl
end StrL
namespace StrL
theorem Hf {a:List aa}(hs:a.Pairwise Le):∀n,n≤a.length→(kK (f8 a) a n).Pairwise Lt∧∀x,x∈kK (f8 a) a n↔x∈a.take n
 | 0,_=>by
  have e:kK (f8 a) a 0=[]:=rfl
  rw[e]
  exact⟨List.Pairwise.nil,fun x=>by simp⟩
 | n+1,hn=>by
  obtain⟨h1,h2⟩:=Hf hs n (by omega)
  have hlt:n<a.length:=by omega
  have hx:=List.getElem?_eq_getElem hlt
  have hle:∀y∈a.take n,Le y a[n]:=by
   intro y hy
   obtain⟨i,hi,rfl⟩:=List.mem_iff_getElem.1 hy
   rw[List.length_take] at hi
   rw[List.getElem_take]
   exact List.pairwise_iff_getElem.1 hs i n (by omega) hlt (by omega)
  cases hk:f8 a n with
  | true=>
   rw[Bf hk hx]
   have hstrict:∀y∈a.take n,Lt y a[n]:=by
    intro y hy
    cases n with
    | zero=>simp at hy
    | succ j=>
     have h3:=List.getElem?_eq_getElem (show j<a.length by omega)
     have hne:a[j+1]≠a[j]:=by
      simp only[f8,h3,hx] at hk
      simpa using hk
     have hj:Le a[j] a[j+1]:=List.pairwise_iff_getElem.1 hs j (j+1) (by omega) hlt (by omega)
     obtain⟨i,hi,rfl⟩:=List.mem_iff_getElem.1 hy
     rw[List.length_take] at hi
     rw[List.getElem_take]
     have hlt2:Lt a[j] a[j+1]:=hj.lt_or.resolve_right fun e=>hne e.symm
     by_cases e:i=j
     ·subst e;exact hlt2
     ·have:=List.pairwise_iff_getElem.1 hs i j (by omega) (by omega) (by omega)
      exact this.le_lt hlt2
   refine⟨List.pairwise_append.2 ⟨h1,List.pairwise_singleton _ _,fun y hy z hz=>?_⟩,fun x=>?_⟩
   ·rw[List.mem_singleton] at hz
    subst hz
    exact hstrict y ((h2 y).1 hy)
   ·rw[List.take_add_one,hx,List.mem_append,List.mem_append,h2]
    rfl
  | false=>
   rw[GE hk]
   refine⟨h1,fun x=>?_⟩
   rw[h2,List.take_add_one,hx,List.mem_append]
   constructor
   ·exact .inl
   ·rintro (h | h)
    ·exact h
    ·have e:x=a[n]:=by simpa using h
     subst e
     cases n with
     | zero=>simp[f8] at hk
     | succ j=>
      have h3:=List.getElem?_eq_getElem (show j<a.length by omega)
      simp only[f8,h3,hx] at hk
      have e:a[j+1]=a[j]:=by simpa using hk
      rw[e]
      have:a[j]∈a.take (j+1):=by
       rw[List.mem_iff_getElem]
       exact⟨j,by rw[List.length_take];omega,by rw[List.getElem_take]⟩
      exact this
theorem dd_ok {a:List aa}(hs:a.Pairwise Le):(dd a).Pairwise Lt∧∀x,x∈dd a↔x∈a:=by
 have:=Hf hs a.length (Nat.le_refl _)
 rw[List.take_length] at this
 exact this
theorem asc_uniq:∀{a b:List aa},a.Pairwise Lt→b.Pairwise Lt→(∀x,x∈a↔x∈b)→a=b
 | [],[],_,_,_=>rfl
 | [],y::b,_,_,h=>absurd ((h y).2 (by simp)) (by simp)
 | x::a,[],_,_,h=>absurd ((h x).1 (by simp)) (by simp)
 | x::a,y::b,ha,hb,h=>by
  rw[List.pairwise_cons] at ha hb
  have e:x=y:=by
   have h1:=(h x).1 (by simp)
   have h2:=(h y).2 (by simp)
   rw[List.mem_cons] at h1 h2
   rcases h1 with h1 | h1
   ·exact h1
   ·rcases h2 with h2 | h2
    ·exact h2.symm
    ·exact ((ha.1 y h2).asymm (hb.1 x h1)).elim
  subst e
  rw[asc_uniq ha.2 hb.2 fun z=>?_]
  constructor
  ·intro hz
   have h1:=(h z).1 (List.mem_cons_of_mem _ hz)
   rcases List.mem_cons.1 h1 with e | h1
   ·subst e;exact (ha.1 z hz).irrefl.elim
   ·exact h1
  ·intro hz
   have h1:=(h z).2 (List.mem_cons_of_mem _ hz)
   rcases List.mem_cons.1 h1 with e | h1
   ·subst e;exact (hb.1 z hz).irrefl.elim
   ·exact h1
theorem Kc {b:Nat}{xs ys:List aa}(h:(xs.length+ys.length)*b≤1099511627776)(h2:xs.length+ys.length≤1099511627776):ix b xs ys=some (xs++ys):=by
 unfold ix
 rw[if_pos]
 simp only[ke]
 omega
theorem KU (l:List aa)(n:aa)(m:Nat)(hm:m≤l.length)(hl:l.length≤1048576)(h1:∀(j:Nat) x,j<m→l[j]?=some x→Lt x n)(h2:∀x,l[m]?=some x→¬Lt x n):∀(k j:Nat),j+k=m→sr l n (j:Int)=some (.inr (n,(m:Int),l))
 | 0,j,hj=>by
  obtain rfl:j=m:=by omega
  rw[DV,kv,cg]
  by_cases h:j<l.length
  ·rw[decide_eq_true h,cond_true,ct,List.getElem?_eq_getElem h,Option.bind_some,gv,show Op.bytesLess l[j] n=false from by simpa[Lt] using h2 _ (List.getElem?_eq_getElem h),cond_false]
  ·rw[decide_eq_false h,cond_false,gv,cond_false]
 | k+1,j,hj=>by
  have h:j<l.length:=by omega
  rw[DV,kv,cg,decide_eq_true h,cond_true,ct,List.getElem?_eq_getElem h,Option.bind_some,gv,show Op.bytesLess l[j] n=true from h1 j _ (by omega) (List.getElem?_eq_getElem h),cond_true,dD (by omega)]
  exact KU l n m hm hl h1 h2 k (j+1) (by omega)
theorem put_val (l:List aa)(n:aa)(hl:l.length≤1000000)(hs:l.Pairwise Lt):∃r,vE l n=some r∧r.Pairwise Lt∧(∀x,x∈r↔x∈l∨x=n)∧r.length≤l.length+1:=by
 have key:∃m,m≤l.length∧(∀(j:Nat) x,j<m→l[j]?=some x→Lt x n)∧(∀x,l[m]?=some x→¬Lt x n):=by
  clear hl
  induction l with
  | nil=>exact⟨0,by simp,fun j x hj=>by omega,fun x hx=>by simp at hx⟩
  | cons y l ih=>
   by_cases hy:Lt y n
   ·obtain⟨m,h1,h2,h3⟩:=ih (List.pairwise_cons.1 hs).2
    refine⟨m+1,by simp;omega,fun j x hj hx=>?_,fun x hx=>h3 x (by simpa using hx)⟩
    cases j with
    | zero=>simp at hx;subst hx;exact hy
    | succ j=>exact h2 j x (by omega) (by simpa using hx)
   ·exact⟨0,by simp,fun j x hj=>by omega,fun x hx=>by simp at hx;subst hx;exact hy⟩
 obtain⟨m,hm,h1,h2⟩:=key
 have hlow:∀x∈l.take m,Lt x n:=by
  intro x hx
  obtain⟨i,hi,rfl⟩:=List.mem_iff_getElem.1 hx
  rw[List.length_take] at hi
  rw[List.getElem_take]
  exact h1 i _ (by omega) (List.getElem?_eq_getElem (by omega))
 have hloop:=KU l n m hm (by omega) h1 h2 m 0 (by omega)
 rw[show ((0:Nat):Int)=0 from rfl] at hloop
 unfold vE
 rw[hloop]
 simp only[eh,cg]
 have s1:iK l.length 0 (m:Int)=some ():=by unfold iK;rw[if_pos (by omega)]
 have s2:iK l.length (m:Int) (len l)=some ():=by unfold iK;rw[if_pos (by simp only[len];omega)]
 have p1:iO l (0+Int.toNat 0) (Int.toNat (m:Int) - Int.toNat 0)=some (l.take m):=by
  unfold iO
  simp only[Int.toNat_zero,Int.toNat_natCast,Nat.zero_add,Nat.sub_zero,List.drop_zero]
  rw[if_pos hm]
 have p2:iO l (0+Int.toNat (m:Int)) (Int.toNat (len l) - Int.toNat (m:Int))=some (l.drop m):=by
  unfold iO
  simp only[Int.toNat_natCast,Nat.zero_add,len]
  rw[if_pos (by omega),List.take_of_length_le (by rw[List.length_drop];omega)]
 have a1:ix 16 ([]:List aa) (l.take m)=some (l.take m):=by rw[Kc (by simp only[List.length_nil,List.length_take];omega) (by simp only[List.length_nil,List.length_take];omega)];rfl
 have a2:ix 16 (l.take m) [n]=some (l.take m++[n]):=A9 (by rw[List.length_take];omega) (by rw[List.length_take];omega)
 have a3:ix 16 (l.take m++[n]) (l.drop m)=some (l.take m++[n]++l.drop m):=Kc (by simp only[List.length_append,List.length_take,List.length_drop,List.length_singleton];omega) (by simp only[List.length_append,List.length_take,List.length_drop,List.length_singleton];omega)
 have hins:(∀x∈l.drop m,Lt n x)→(l.take m++[n]++l.drop m).Pairwise Lt∧(∀x,x∈l.take m++[n]++l.drop m↔x∈l∨x=n)∧(l.take m++[n]++l.drop m).length≤l.length+1:=by
  intro hhi
  have hs2:=hs
  rw[←List.take_append_drop m l,List.pairwise_append] at hs2
  refine⟨List.pairwise_append.2 ⟨List.pairwise_append.2 ⟨hs2.1,List.pairwise_singleton _ _,fun x hx y hy=>?_⟩,hs2.2.1,fun x hx y hy=>?_⟩,fun x=>?_,?_⟩
  ·rw[List.mem_singleton] at hy;subst hy;exact hlow x hx
  ·rcases List.mem_append.1 hx with hx | hx
   ·exact hs2.2.2 x hx y hy
   ·rw[List.mem_singleton] at hx;subst hx;exact hhi y hy
  ·have:x∈l↔x∈l.take m∨x∈l.drop m:=by
    rw[←List.mem_append,List.take_append_drop]
   rw[List.mem_append,List.mem_append,List.mem_singleton,this]
   constructor
   ·rintro ((h | h) | h)
    ·exact .inl (.inl h)
    ·exact .inr h
    ·exact .inl (.inr h)
   ·rintro ((h | h) | h)
    ·exact .inl (.inl h)
    ·exact .inr h
    ·exact .inl (.inr h)
  ·simp only[List.length_append,List.length_take,List.length_drop,List.length_singleton];omega
 by_cases hb:m<l.length
 ·have hx:=List.getElem?_eq_getElem hb
  have hge:=h2 _ hx
  have hrest:∀x∈l.drop (m+1),Lt l[m] x:=by
   intro x hx
   obtain⟨i,hi,rfl⟩:=List.mem_iff_getElem.1 hx
   rw[List.length_drop] at hi
   rw[List.getElem_drop]
   exact List.pairwise_iff_getElem.1 hs m (m+1+i) hb (by omega) (by omega)
  rw[decide_eq_true hb,cond_true,ct,hx,Option.bind_some,eh,xl]
  by_cases he:l[m]=n
  ·rw[decide_eq_true he,cond_true]
   refine⟨l,rfl,hs,fun x=>⟨.inl,?_⟩,by omega⟩
   rintro (h | h)
   ·exact h
   ·rw[h,←he];exact List.getElem_mem hb
  ·rw[decide_eq_false he,cond_false]
   simp only[s1,p1,a1,a2,s2,p2,a3,Option.bind_some]
   refine⟨_,rfl,hins ?_⟩
   intro x hx
   rw[List.drop_eq_getElem_cons hb] at hx
   rcases List.mem_cons.1 hx with rfl | hx
   ·exact (tri n l[m]).resolve_right fun h=>h.elim (fun e=>he e.symm) hge
   ·have h1:Lt n l[m]:=(tri n l[m]).resolve_right fun h=>h.elim (fun e=>he e.symm) hge
    exact h1.trans (hrest x hx)
 ·rw[decide_eq_false hb,cond_false,eh,cond_false]
  simp only[s1,p1,a1,a2,s2,p2,a3,Option.bind_some]
  refine⟨_,rfl,hins ?_⟩
  intro x hx
  rw[List.drop_of_length_le (by omega)] at hx
  cases hx
end StrL
theorem xn {x y:aa}:decide (x≤y)=true↔StrL.Le x y:=by
 unfold StrL.Le StrL.Lt
 rw[Go.Proofs.bytesLess_eq,decide_eq_true_iff,decide_eq_true_iff]
 exact Iff.rfl
theorem Wh (l:List aa):(l.mergeSort fun x y=>decide (x≤y)).Pairwise StrL.Le:=by
 have h:=List.pairwise_mergeSort (le:=fun x y:aa=>decide (x≤y)) (fun x y z h1 h2=>by
  rw[xn] at *;exact h1.trans h2) (fun x y=>by
  rw[Bool.or_eq_true,xn,xn]
  rcases StrL.tri x y with h | h | h
  ·exact .inl h.le
  ·subst h;exact .inl fun h=>h.irrefl
  ·exact .inr h.le) l
 exact h.imp fun {x y} h=>xn.1 h
theorem Tq (l r:List aa)(hl:l.length≤1048576)(hr:r.Pairwise StrL.Lt)(hm:∀x,x∈r↔x∈l):yR l=some r:=by
 unfold yR tt
 have hl2:(l.mergeSort fun (x y:aa)=>decide (x≤y)).length=l.length:=List.length_mergeSort _
 rw[Nat.ble_eq_true_of_le hl,cond_true,Option.bind_some,hl2,Nat.beq_refl,cond_true,StrL.compact_val _ (by rw[hl2];exact hl),Option.bind_some]
 obtain⟨h1,h2⟩:=StrL.dd_ok (Wh l)
 congr 1
 refine StrL.asc_uniq h1 hr fun x=>?_
 rw[h2,hm]
 exact (List.mergeSort_perm l _).mem_iff
theorem Bb (b x:Bool):(bif b then x else false)=(b&&x):=by cases b<;>rfl
def ek (x a b:Int):Bool:=decide (x≥a)&&decide (x≤b)
theorem ln (x a b:Int):dX x a b=some (ek x a b):=by simp only[dX,gh,Bb,ek]
theorem jW (x a b:Int):ic x a b=some (ek x a b):=by simp only[ic,gh,Bb,ek]
def kf (c:UInt8):Bool:=(decide (97≤c.toNat)&&decide (c.toNat≤122))||(decide (48≤c.toNat)&&decide (c.toNat≤57))
theorem S8 (c:UInt8):vG (c.toNat:Int)=some (kf c):=by
 simp only[vG,kf,gh]
 by_cases h1:97≤c.toNat<;>by_cases h2:c.toNat≤122<;>by_cases h3:48≤c.toNat<;>by_cases h4:c.toNat≤57<;>simp[h1,h2,h3,h4,show ((97:Int)≤c.toNat)↔97≤c.toNat by omega,show ((c.toNat:Int)≤122)↔c.toNat≤122 by omega,show ((48:Int)≤c.toNat)↔48≤c.toNat by omega,show ((c.toNat:Int)≤57)↔c.toNat≤57 by omega]
def lq:List aa:=[[116,114,117,101],[102,114,111,109],[110,111,116],[97,110,100],[111,114],[98,111,116,104],[101,105,116,104,101,114],[105,116],[105,110]]
def fH (s:aa):Bool:=match s with
 | []=>false
 | c::r=>decide (r.length<8)&&decide (97≤c.toNat)&&decide (c.toNat≤122)&&s.all kf && !lq.contains s
theorem XH (b x:Bool):(bif b then b else x)=(b||x):=by cases b<;>rfl
theorem Mg:AX [116,114,117,101,32,102,114,111,109,32,110,111,116,32,97,110,100,32,111,114,32,98,111,116,104,32,101,105,116,104,101,114,32,105,116,32,105,110] [32]=some lq:=by
 have h:wQ [116,114,117,101,32,102,114,111,109,32,110,111,116,32,97,110,100,32,111,114,32,98,111,116,104,32,101,105,116,104,101,114,32,105,116,32,105,110] [32] 0 (-1) 9 ([116,114,117,101,32,102,114,111,109,32,110,111,116,32,97,110,100,32,111,114,32,98,111,116,104,32,101,105,116,104,101,114,32,105,116,32,105,110],0,List.replicate 9 [])=some (.inr ([105,110],8,[[116,114,117,101],[102,114,111,109],[110,111,116],[97,110,100],[111,114],[98,111,116,104],[101,105,116,104,101,114],[105,116],[]])):=
  (iA (fun a=>(yi _ _ _ _ _ a).1)).2 ⟨20,by decide +kernel⟩
 have e:AX [116,114,117,101,32,102,114,111,109,32,110,111,116,32,97,110,100,32,111,114,32,98,111,116,104,32,101,105,116,104,101,114,32,105,116,32,105,110] [32]=(bd (wQ [116,114,117,101,32,102,114,111,109,32,110,111,116,32,97,110,100,32,111,114,32,98,111,116,104,32,101,105,116,104,101,114,32,105,116,32,105,110] [32] 0 (-1) 9 ([116,114,117,101,32,102,114,111,109,32,110,111,116,32,97,110,100,32,111,114,32,98,111,116,104,32,101,105,116,104,101,114,32,105,116,32,105,110],0,List.replicate 9 [])) fun u12:aa×Int×(List aa)=>(aP u12.2.2 u12.2.1).bind fun e13=>(iK (fI u12.2.2 u12.2.1 u12.1).length 0 (az (u12.2.1+1))).bind fun s14=>(iO (fI u12.2.2 u12.2.1 u12.1) (0+Int.toNat (0)) (Int.toNat ((az (u12.2.1+1))) - Int.toNat (0))).bind fun p15=>some p15).bind fun r=>some r:=by rfl
 rw[e,h]
 rfl
theorem Gz (s:aa):mP lq s=some (lq.contains s):=by
 unfold mP vr
 rw[iY (L:=nQ lq s) (a:=lq) (p:=fun e=>some (s==e)) (q:=fun e=>s==e) (fun _ _=>rfl) (fun x=>by rw[tB,jf]<;>rfl) (by decide)]
 cases h:lq.findIdx? (fun e=>s==e) with
 | none=>
  have:lq.contains s=false:=by
   rw[List.findIdx?_eq_none_iff] at h
   rw[Bool.eq_false_iff]
   intro hc
   rw[List.contains_iff_exists_mem_beq] at hc
   obtain⟨w,hw,he⟩:=hc
   rw[h w hw] at he
   cases he
  rw[this]
  rfl
 | some i=>
  have:lq.contains s=true:=by
   rw[List.findIdx?_eq_some_iff_getElem] at h
   obtain⟨hi,he,_⟩:=h
   rw[List.contains_iff_exists_mem_beq]
   exact⟨_,List.getElem_mem hi,he⟩
  rw[this]
  simp
theorem OA (s:aa):(bif s==[116,114,117,101] then s==[116,114,117,101] else bif s==[102,114,111,109] then s==[102,114,111,109] else bif s==[110,111,116] then s==[110,111,116] else bif s==[97,110,100] then s==[97,110,100] else bif s==[111,114] then s==[111,114] else bif s==[98,111,116,104] then s==[98,111,116,104] else bif s==[101,105,116,104,101,114] then s==[101,105,116,104,101,114] else bif s==[105,116] then s==[105,116] else s==[105,110])=lq.contains s:=by
 simp only[XH,lq,List.contains_cons,List.contains_nil,Bool.or_false]
theorem mM (s:aa)(hs:s.length≤1048576):pb s=some (fH s):=by
 unfold pb dX fH
 simp only[gh,Option.bind_some,OA]
 cases s with
 | nil=>rfl
 | cons c r=>
  have e1:decide (len (c::r)≥1)=true:=decide_eq_true (by simp[len];omega)
  have e2:decide (len (c::r)≤8)=decide (r.length<8):=by simp only[len,List.length_cons];congr 1;apply propext;omega
  have e3:aP (c::r) (0:Int)=some c:=rfl
  have e4:decide ((c.toNat:Int)<97)=!decide (97≤c.toNat):=by rw[←decide_not];congr 1;apply propext;omega
  have e5:decide ((c.toNat:Int)>122)=!decide (c.toNat≤122):=by rw[←decide_not];congr 1;apply propext;omega
  rw[e1,e2,e3,sP (r:=false) (L:=sj (c::r)) (a:=c::r) (p:=fun c=>(vG (c.toNat:Int)).bind fun r=>some (!r)) (q:=fun c=>!kf c) (fun x _=>by rw[S8];rfl) (fun x=>by rw[Nw,mo];simp only[Option.bind_assoc,Option.bind_some]) (by omega)]
  simp only[cond_true,Option.bind_some,e4,e5]
  have e6:((c::r).any fun c=>!kf c)=!((c::r).all kf):=by rw[List.not_all_eq_any_not]
  rw[e6]
  cases decide (r.length<8)<;>cases decide (97≤c.toNat)<;>cases decide (c.toNat≤122)<;>cases (c::r).all kf<;>cases lq.contains (c::r)<;>rfl
theorem mG (s:aa)(hs:s.length≤1048576):rQ s=some (fH s):=by
 unfold rQ ic fH
 simp only[gh,Option.bind_some,Mg,Gz]
 cases s with
 | nil=>rfl
 | cons c r=>
  have e1:decide (len (c::r)≥1)=true:=decide_eq_true (by simp[len];omega)
  have e2:decide (len (c::r)≤8)=decide (r.length<8):=by simp only[len,List.length_cons];congr 1;apply propext;omega
  have e3:aP (c::r) (0:Int)=some c:=rfl
  have e4:decide ((c.toNat:Int)<97)=!decide (97≤c.toNat):=by rw[←decide_not];congr 1;apply propext;omega
  have e5:decide ((c.toNat:Int)>122)=!decide (c.toNat≤122):=by rw[←decide_not];congr 1;apply propext;omega
  have hp:∀c:UInt8,(bif decide ((c.toNat:Int)<97) then (bif decide ((c.toNat:Int)<48) then true else decide ((c.toNat:Int)>57)) else (bif decide ((c.toNat:Int)>122) then (bif decide ((c.toNat:Int)<48) then true else decide ((c.toNat:Int)>57)) else false))=!kf c:=by
   intro c
   have f1:decide ((c.toNat:Int)<97)=!decide (97≤c.toNat):=by rw[←decide_not];congr 1;apply propext;omega
   have f2:decide ((c.toNat:Int)>122)=!decide (c.toNat≤122):=by rw[←decide_not];congr 1;apply propext;omega
   have f3:decide ((c.toNat:Int)<48)=!decide (48≤c.toNat):=by rw[←decide_not];congr 1;apply propext;omega
   have f4:decide ((c.toNat:Int)>57)=!decide (c.toNat≤57):=by rw[←decide_not];congr 1;apply propext;omega
   rw[f1,f2,f3,f4]
   unfold kf
   by_cases g1:97≤c.toNat
   ·have g3:48≤c.toNat:=by omega
    have g4:¬c.toNat≤57:=by omega
    simp only[g1,g3,g4,decide_true,decide_false]
    cases decide (c.toNat≤122)<;>rfl
   ·simp only[g1,decide_false]
    cases decide (48≤c.toNat)<;>cases decide (c.toNat≤57)<;>rfl
  rw[e1,e2,e3,sP (r:=false) (L:=vg (c::r)) (a:=c::r) (p:=fun c=>some (!kf c)) (q:=fun c=>!kf c) (fun x _=>rfl) (fun x=>by rw[PP,nN];simp only[gh,hp,Option.bind_some]) (by omega)]
  simp only[cond_true,Option.bind_some,e4,e5]
  have e6:((c::r).any fun c=>!kf c)=!((c::r).all kf):=by rw[List.not_all_eq_any_not]
  rw[e6]
  cases decide (r.length<8)<;>cases decide (97≤c.toNat)<;>cases decide (c.toNat≤122)<;>cases (c::r).all kf<;>cases lq.contains (c::r)<;>rfl
theorem nj {ρ υ σ : Type}{L : Nat → σ → Option (ρ ⊕ υ)}(N : Nat)(J : Nat → σ → Prop)(T : ρ ⊕ υ → Prop)(hs : ∀ i s,i < N→J i s→(∃ s',J (i + 1) s' ∧ L i s=L (i + 1) s') ∨ ∃ y,T y ∧ L i s=some y)(he : ∀ s,J N s→∃ y,T y ∧ L N s=some y){s : σ}(h0 : J 0 s) : ∃ y,T y ∧ L 0 s=some y:=by
  have key : ∀ k i s,i + k=N→J i s→∃ y,T y ∧ L i s=some y:=by
    intro k
    induction k with
    | zero => intro i s hi hj; obtain rfl : i = N := by omega
              exact he s hj
    | succ k ih =>
      intro i s hi hj
      rcases hs i s (by omega) hj with ⟨s',h1,h2⟩ | h
      · rw [h2]; exact ih (i + 1) s' (by omega) h1
      · exact h
  exact key N 0 s (by omega) h0
theorem Gy {α:Type}{L:Int→Option (Bool⊕Unit)}{a:List α}{f:α→Option Bool}{p:α→Bool}(hf:∀x∈a,f x=some (p x))(hL:∀x,L x=bif decide (x<len a) then (aP a x).bind fun e=>(f e).bind fun r=>bif !r then some (.inl false) else L (az (x+1)) else some (.inr ()))(hb:a.length<9223372036854775807):L 0=some (if a.all p then .inr () else .inl false):=by
 obtain⟨y,h1,h2⟩:=nj (L:=fun i (_:Unit)=>L (i:Int)) a.length (fun i _=>(a.take i).all p=true) (fun y=>y=if a.all p then .inr () else .inl false) (s:=())
  (by
   intro i _ hi hj
   have hx:=List.getElem?_eq_getElem hi
   rw[show L (i:Int)=_ from hL _,cg,decide_eq_true hi,cond_true,ct,hx,Option.bind_some,hf _ (List.getElem_mem hi),Option.bind_some,dD (by omega)]
   cases hp:p a[i] with
   | true=>
    refine .inl ⟨(),?_,rfl⟩
    rw[List.take_add_one,hx,List.all_append,hj]
    simp[hp]
   | false=>
    refine .inr ⟨_,?_,rfl⟩
    rw[if_neg]
    intro h
    rw[List.all_eq_true] at h
    rw[h _ (List.getElem_mem hi)] at hp
    cases hp)
  (by
   intro _ hj
   refine⟨_,rfl,?_⟩
   rw[List.take_length] at hj
   rw[show L (a.length:Int)=_ from hL _,cg,decide_eq_false (by omega),cond_false,if_pos hj]) (by simp)
 rw[show L 0=some y from h2,h1]
theorem tR {ρ υ α:Type}{q:α→Bool}{y0 y1:ρ⊕υ}:∀{a:List α} {L:Nat→Option (ρ⊕υ)},(∀(i:Nat) x,a[i]?=some x→L i=bif q x then some y0 else L (i+1))→L a.length=some y1→L 0=some (if a.any q then y0 else y1)
 | [],L,_,he=>by simpa using he
 | x::a,L,hL,he=>by
  rw[hL 0 x rfl,tR (a:=a) (L:=fun i=>L (i+1)) (y0:=y0) (y1:=y1) (fun i z hz=>hL (i+1) z (by simpa using hz)) (by simpa using he),List.any_cons]
  cases q x<;>rfl
def pq (c:Condition):Bool:=
 if c.Op=1 then decide (c.Parts.length=0)&&(decide (c.Name=[])&&decide (c.Day=0))
 else if c.Op=2 then decide (c.Parts.length=0)&&(fH c.Name&&decide (c.Day=0))
 else if c.Op=3 then decide (c.Parts.length=0)&&(decide (c.Name=[])&&ek c.Day 0 36524)
 else if c.Op=4 then decide (c.Parts.length=1)&&(decide (c.Name=[])&&decide (c.Day=0))
 else if c.Op=5∨c.Op=6 then decide (c.Parts.length=2)&&(decide (c.Name=[])&&decide (c.Day=0))
 else false
mutual
def ep:Condition→Bool
 | ⟨a0,a1,a2,a3⟩=>pq ⟨a0,a1,a2,a3⟩&&xb a3
def xb:List Condition→Bool
 | []=>true
 | x::xs=>ep x&&xb xs
end
theorem yu:∀a,xb a=a.all ep
 | []=>rfl
 | x::xs=>by simp[xb,yu xs]
theorem qO (c:Condition):ep c=(pq c&&c.Parts.all ep):=by cases c;simp only[ep,yu]
theorem xe {α:Type}{a:List α}{n:Nat}:(len a==(n:Int))=decide (a.length=n):=by
 rw[ta]
 by_cases h:a.length=n
 ·rw[decide_eq_true h,decide_eq_true];simp only[len];omega
 ·rw[decide_eq_false h,decide_eq_false];simp only[len];omega
theorem S6 (c:Condition)(hn:c.Name.length≤1048576):Ap c=some (pq c):=by
 have l0:(len c.Parts==0)=decide (c.Parts.length=0):=xe (n:=0)
 have l1:(len c.Parts==1)=decide (c.Parts.length=1):=xe (n:=1)
 have l2:(len c.Parts==2)=decide (c.Parts.length=2):=xe (n:=2)
 unfold Ap pq
 simp only[gh,mM _ hn,Option.bind_some,pW,ln,l0,l1,l2,xl,ta,Bb]
 by_cases o1:c.Op=1
 ·simp only[o1,decide_true,cond_true,if_true]
 by_cases o2:c.Op=2
 ·rw[decide_eq_false o1,decide_eq_true o2,cond_false,cond_true,if_neg o1,if_pos o2]
  cases decide (c.Parts.length=0)<;>rfl
 by_cases o3:c.Op=3
 ·rw[decide_eq_false o1,decide_eq_false o2,decide_eq_true o3,cond_false,cond_false,cond_true,if_neg o1,if_neg o2,if_pos o3]
  cases decide (c.Parts.length=0)<;>cases decide (c.Name=[])<;>rfl
 by_cases o4:c.Op=4
 ·rw[decide_eq_false o1,decide_eq_false o2,decide_eq_false o3,decide_eq_true o4,if_neg o1,if_neg o2,if_neg o3,if_pos o4]
  rfl
 rw[decide_eq_false o1,decide_eq_false o2,decide_eq_false o3,decide_eq_false o4,if_neg o1,if_neg o2,if_neg o3,if_neg o4]
 by_cases o5:c.Op=5
 ·simp only[o5,decide_true,cond_true,cond_false,true_or,if_true]
 ·by_cases o6:c.Op=6
  ·rw[if_pos (.inr o6),decide_eq_false o5,decide_eq_true o6];rfl
  ·rw[if_neg (by omega),decide_eq_false o5,decide_eq_false o6];rfl
theorem Ox (c:Condition):cb c→F5 c=some (ep c):=by
 refine fw (P:=fun c=>cb c→F5 c=some (ep c)) ?_ c
 intro c ih hc
 rw[gl] at hc
 rw[WY]
 unfold sh
 rw[S6 c hc.2.1,Option.bind_some,qO]
 cases pq c with
 | false=>rfl
 | true=>
  have hl:c.Parts.length≤1048576:=hc.2.2.2.1.1
  simp only[Bool.not_true,cond_false,Bool.true_and]
  rw[Gy (L:=pN (aM pY) c) (a:=c.Parts) (f:=fun e=>F5 e) (p:=ep) (fun x hx=>ih x hx (hc.2.2.2.1.2 x hx)) (fun x=>by rw[Nv,kr]<;>rfl) (by omega)]
  cases c.Parts.all ep<;>rfl
theorem xg (a:List Condition)(i:Nat)(h:i<a.length):aR (a.take (i+1))=aR (a.take i)+bE a[i]:=by
 have app:∀(x y:List Condition),aR (x++y)=aR x+aR y:=by
  intro x y
  induction x with
  | nil=>simp[aR]
  | cons z x ih=>simp only[List.cons_append,aR,ih];omega
 rw[List.take_add_one,List.getElem?_eq_getElem h,app]
 simp[aR]
theorem py (a:List Condition)(i:Nat):aR (a.take i)≤aR a:=by
 have app:∀(x y:List Condition),aR (x++y)=aR x+aR y:=by
  intro x y
  induction x with
  | nil=>simp[aR]
  | cons z x ih=>simp only[List.cons_append,aR,ih];omega
 have:=app (a.take i) (a.drop i)
 rw[List.take_append_drop] at this
 omega
theorem S9 (c:Condition):bE c≤2000000→JB c=some ((bE c:Nat):Int):=by
 refine fw (P:=fun c=>bE c≤2000000→JB c=some ((bE c:Nat):Int)) ?_ c
 intro c ih hc
 have hc':=fQ c
 have hcs:=hJ c.Parts
 rw[W2]
 unfold su
 obtain⟨y,h1,h2⟩:=nj (L:=fun i (s:Int)=>kW (aM kw) c (s,(i:Int))) c.Parts.length (fun i s=>s=((1+aR (c.Parts.take i):Nat):Int)) (fun y=>y=.inr ((bE c:Nat):Int)) (s:=1)
  (by
   intro i s hi hj
   have hx:=List.getElem?_eq_getElem hi
   have h3:=xg c.Parts i hi
   have h4:=py c.Parts (i+1)
   refine .inl ⟨((1+aR (c.Parts.take (i+1)):Nat):Int),rfl,?_⟩
   show kW (aM kw) c (s,(i:Int))=_
   rw[DY,ji]
   simp only[cg,decide_eq_true hi,cond_true,ct,hx,Option.bind_some]
   rw[show aM kw c.Parts[i]=some ((bE c.Parts[i]:Nat):Int) from ih _ (List.getElem_mem hi) (by omega),Option.bind_some,dD (by omega),hj,jN (by omega) (by omega)]
   congr 2
   omega)
  (by
   intro s hj
   refine⟨_,rfl,?_⟩
   rw[List.take_length] at hj
   show kW (aM kw) c (s,(c.Parts.length:Int))=_
   rw[DY,ji]
   simp only[cg,decide_eq_false (Nat.lt_irrefl _),cond_false]
   rw[hj,hc']) (by simp[aR])
 rw[show kW (aM kw) c (1,0)=some y from h2,h1]
 rfl
def ot (c:Condition):Bool:=ep c&&decide (bE c≤15)
theorem abU {c:Condition}(h:cb c):bE c≤1048577:=by
 rw[gl] at h
 rw[fQ]
 omega
theorem S4 (c:Condition)(h:cb c):Au c=some (ot c):=by
 unfold Au ot
 rw[Ox c h,Option.bind_some]
 cases ep c with
 | false=>rfl
 | true=>
  have:=abU h
  simp only[cond_true,Bool.true_and]
  rw[S9 c (by omega),Option.bind_some,eh]
  congr 1
  by_cases h:bE c≤15
  ·rw[decide_eq_true h,decide_eq_true (by omega)]
  ·rw[decide_eq_false h,decide_eq_false (by omega)]
def La (op:Int):Nat:=if op=4 then 1 else if op=5∨op=6 then 2 else 0
def Bm (c:Condition):Bool:=ek c.Op 1 6&&decide (c.Parts.length=La c.Op)
def Ft (c:Condition):Bool:=((c.Op==2) == !(c.Name==([]:aa)))&&((if c.Op=2 then fH c.Name else true)&&((if c.Op=3 then true else decide (c.Day=0))&&ek c.Day 0 36524))
theorem mH {x a b:Int}:ek x a b=true↔a≤x∧x≤b:=by simp[ek]
theorem SB (c:Condition):((ic c.Op 1 6).bind fun r20=>bZ (ρ:=Int) (bif (!r20) then (some (.inr true)) else ((aP [(-1),0,0,0,1,2,2] c.Op).bind fun e22=>some (.inr ((len c.Parts) != e22)))) fun u21:Bool=>(some (.inr u21):Option (Int⊕Bool)))=some (.inr (!Bm c)):=by
 rw[jW,Option.bind_some]
 unfold Bm
 cases h:ek c.Op 1 6 with
 | false=>rfl
 | true=>
  rw[mH] at h
  have ho:c.Op=1∨c.Op=2∨c.Op=3∨c.Op=4∨c.Op=5∨c.Op=6:=by omega
  have key:aP [(-1),0,0,0,1,2,2] c.Op=some ((La c.Op:Nat):Int):=by rcases ho with h | h | h | h | h | h<;>rw[h]<;>rfl
  simp only[Bool.not_true,cond_false,key,Option.bind_some,gv,Bool.true_and,bne,xe]
theorem SC (c:Condition)(hn:c.Name.length≤1048576):(bif (!((c.Op==2)==(!(c.Name==([]:aa))))) then (some (.inr true)) else (bZ (ρ:=Int) (bif (c.Op==2) then ((rQ c.Name).bind fun r10=>bZ (ρ:=Int) (bif (!r10) then (some (.inr true)) else (bZ (ρ:=Int) (bif (c.Op != 3) then (bZ (ρ:=Int) (bif (c.Day != 0) then (some (.inr true)) else ((nD c.Day).bind fun r14=>some (.inr (!r14)))) fun u13:Bool=>some (.inr u13)) else ((nD c.Day).bind fun r15=>some (.inr (!r15)))) fun u12:Bool=>some (.inr u12))) fun u11:Bool=>some (.inr u11)) else (bZ (ρ:=Int) (bif (c.Op != 3) then (bZ (ρ:=Int) (bif (c.Day != 0) then (some (.inr true)) else ((nD c.Day).bind fun r18=>some (.inr (!r18)))) fun u17:Bool=>some (.inr u17)) else ((nD c.Day).bind fun r19=>some (.inr (!r19)))) fun u16:Bool=>some (.inr u16))) fun u9:Bool=>(some (.inr u9):Option (Int⊕Bool))))=some (.inr (!Ft c)):=by
 unfold Ft
 simp only[mG _ hn,nD,jW,Option.bind_some,XW]
 cases ((c.Op==2) == !(c.Name==([]:aa))) with
 | false=>rfl
 | true=>
  simp only[Bool.not_true,cond_false,Bool.true_and]
  by_cases o2:c.Op=2
  ·simp only[o2,if_true,show ((2:Int)==2)=true from rfl,cond_true,show ¬(2:Int)=3 by omega,if_false,decide_false,Bool.not_false]
   cases fH c.Name<;>by_cases hd:c.Day=0<;>simp[hd]
  ·have:(c.Op==2)=false:=beq_eq_false_iff_ne.2 o2
   rw[this,cond_false,if_neg o2]
   by_cases o3:c.Op=3
   ·simp[o3]
   ·by_cases hd:c.Day=0<;>simp[o3,hd]
theorem ua (c:Condition):pq c=(Bm c&&Ft c):=by
 have name0:c.Name=[]→fH c.Name=false:=fun h=>by rw[h];rfl
 have d0:c.Day=0→ek c.Day 0 36524=true:=fun h=>by rw[h];rfl
 have in1:ek c.Op 1 6=decide (1≤c.Op∧c.Op≤6):=by rw[Bool.eq_iff_iff,mH,decide_eq_true_iff]
 unfold pq Bm Ft
 rw[in1,show La c.Op=if c.Op=4 then 1 else if c.Op=5∨c.Op=6 then 2 else 0 from rfl]
 by_cases hn:c.Name=[]
 ·by_cases hd:c.Day=0
  ·by_cases o1:c.Op=1
   ·simp[o1,hn,hd,ek]
   by_cases o2:c.Op=2
   ·simp[o2,hn,hd,fH]
   by_cases o3:c.Op=3
   ·simp[o3,hn,hd,ek]
   by_cases o4:c.Op=4
   ·simp[o4,hn,hd,ek]
   by_cases o5:c.Op=5
   ·simp[o5,hn,hd,ek]
   by_cases o6:c.Op=6
   ·simp[o6,hn,hd,ek]
   have:¬(1≤c.Op∧c.Op≤6):=by omega
   simp[o1,o2,o3,o4,o5,o6,decide_eq_false this]
  ·by_cases o3:c.Op=3
   ·simp[o3,hn]
   ·by_cases o2:c.Op=2<;>simp[o2,o3,hd]
 ·have hb:(c.Name==([]:aa))=false:=beq_eq_false_iff_ne.2 hn
  by_cases o2:c.Op=2
  ·by_cases hd:c.Day=0<;>simp[o2,hn,hd,ek,hb]
  ·simp[o2,hn,hb]
theorem N8 (c:Condition):cb c→∀so:Nat,so≤15→R1 c (so:Int)=some (if ep c=true∧so+bE c≤15 then ((so+bE c:Nat):Int) else -1):=by
 refine fw (P:=fun c=>cb c→∀so:Nat,so≤15→R1 c (so:Int)=some (if ep c=true∧so+bE c≤15 then ((so+bE c:Nat):Int) else -1)) ?_ c
 intro c ih hc so hso
 rw[gl] at hc
 have hnc:=fQ c
 rw[aao]
 unfold wU
 rw[SB,SC c hc.2.1,dD (by omega),qO,ua]
 by_cases h15:so+1≤15
 ·rw[decide_eq_false (by omega),cond_false]
  cases Bm c with
  | false=>rfl
  | true=>
  cases Ft c with
  | false=>rfl
  | true=>
   simp only[Bool.not_true,eh,cond_false,Bool.true_and]
   obtain⟨y,h1,h2⟩:=nj (L:=fun i (s:Int)=>lz (aM lG) c (so:Int) (s,(i:Int))) c.Parts.length
    (fun i s=>s=((so+1+aR (c.Parts.take i):Nat):Int)∧so+1+aR (c.Parts.take i)≤15∧(c.Parts.take i).all ep=true)
    (fun y=>y=if c.Parts.all ep=true∧so+bE c≤15 then .inr ((so+bE c:Nat):Int) else .inl (-1)) (s:=((so+1:Nat):Int))
    (by
     rintro i s hi ⟨hj,hj2,hj3⟩
     have hx:=List.getElem?_eq_getElem hi
     have h3:=xg c.Parts i hi
     have h4:=py c.Parts (i+1)
     have h5:=ih _ (List.getElem_mem hi) (hc.2.2.2.1.2 _ (List.getElem_mem hi)) (so+1+aR (c.Parts.take i)) hj2
     show (∃s',_∧lz (aM lG) c (so:Int) (s,(i:Int))=_)∨∃y,_∧lz (aM lG) c (so:Int) (s,(i:Int))=_
     rw[G6,kD]
     simp only[cg,decide_eq_true hi,cond_true,ct,hx,Option.bind_some,hj]
     rw[show aM lG (c.Parts[i],((so+1+aR (c.Parts.take i):Nat):Int))=_ from h5,Option.bind_some,dD (by have:=hc.2.2.2.1.1;omega)]
     by_cases hq:ep c.Parts[i]=true∧so+1+aR (c.Parts.take i)+bE c.Parts[i]≤15
     ·rw[if_pos hq,decide_eq_false (by omega),cond_false]
      refine .inl ⟨_,⟨?_,?_,?_⟩,rfl⟩
      ·congr 1;omega
      ·omega
      ·rw[List.take_add_one,hx,List.all_append,hj3];simp[hq.1]
     ·rw[if_neg hq,decide_eq_true (by omega),cond_true]
      refine .inr ⟨_,?_,rfl⟩
      rw[if_neg]
      rintro⟨h6,h7⟩
      rw[List.all_eq_true] at h6
      exact hq ⟨h6 _ (List.getElem_mem hi),by omega⟩)
    (by
     rintro s ⟨hj,hj2,hj3⟩
     rw[List.take_length] at *
     show ∃y,_∧lz (aM lG) c (so:Int) (s,(c.Parts.length:Int))=_
     rw[G6,kD]
     simp only[cg,decide_eq_false (Nat.lt_irrefl _),cond_false]
     refine⟨_,?_,rfl⟩
     rw[if_pos ⟨hj3,by omega⟩,hj]
     congr 2;omega) ⟨by simp[aR],by simp[aR];omega,by simp⟩
   rw[show lz (aM lG) c (so:Int) (((so+1:Nat):Int),0)=some y from h2,h1]
   by_cases hq:c.Parts.all ep=true∧so+bE c≤15
   ·rw[if_pos hq,if_pos hq];rfl
   ·rw[if_neg hq,if_neg hq];rfl
 ·rw[decide_eq_true (by omega),cond_true,eh,cond_true,if_neg (by omega)]
theorem Sy (c:Condition)(h:cb c):IY c=some (ot c):=by
 unfold IY ot
 rw[show (0:Int)=((0:Nat):Int) from rfl,N8 c h 0 (by omega),Option.bind_some]
 have:=fQ c
 congr 1
 cases ep c with
 | false=>rfl
 | true=>
  by_cases h:bE c≤15
  ·rw[if_pos ⟨rfl,by omega⟩,decide_eq_true (by omega),decide_eq_true h];rfl
  ·rw[if_neg (by omega),decide_eq_false h];rfl
mutual
def jK:Condition→List aa
 | ⟨op,name,_,parts⟩=>(if op=2 then [name] else [])++eI parts
def eI:List Condition→List aa
 | []=>[]
 | x::xs=>jK x++eI xs
end
theorem Hq (c:Condition):jK c=(if c.Op=2 then [c.Name] else [])++eI c.Parts:=by cases c;simp only[jK]
theorem yz:∀(a b:List Condition),eI (a++b)=eI a++eI b
 | [],b=>rfl
 | x::a,b=>by simp only[List.cons_append,eI,yz a b,List.append_assoc]
theorem wo (a:List Condition)(i:Nat)(h:i<a.length):eI (a.take (i+1))=eI (a.take i)++jK a[i]:=by
 rw[List.take_add_one,List.getElem?_eq_getElem h,yz]
 simp[eI]
mutual
theorem Fk:∀c,(jK c).length≤bE c
 | ⟨op,name,day,parts⟩=>by
  have:=rq parts
  simp only[jK,bE,List.length_append]
  split<;>simp<;>omega
theorem rq:∀a,(eI a).length≤aR a
 | []=>by simp[eI]
 | x::a=>by
  have h1:=Fk x
  have h2:=rq a
  simp only[eI,aR,List.length_append]
  omega
end
theorem Ob (c:Condition):∀l:List aa,l.length+bE c≤1000000→RX c l=some (l++jK c):=by
 refine fw (P:=fun c=>∀l:List aa,l.length+bE c≤1000000→RX c l=some (l++jK c)) ?_ c
 intro c ih l hl
 have hnc:=fQ c
 have hpl:=hJ c.Parts
 rw[aan]
 unfold wS
 have h0:(bif (c.Op==2) then ((ix 16 l [c.Name]).bind fun a8=>some (.inr a8)) else (some (.inr l)):Option (List aa⊕List aa))=some (.inr (l++if c.Op=2 then [c.Name] else [])):=by
  rw[ta]
  by_cases h:c.Op=2
  ·rw[decide_eq_true h,cond_true,A9 (by omega) (by omega),if_pos h];rfl
  ·rw[decide_eq_false h,cond_false,if_neg h,List.append_nil]
 rw[h0,eh]
 have hlen:(l++if c.Op=2 then [c.Name] else []).length≤l.length+1:=by
  rw[List.length_append];split<;>simp
 rw[Hq,←List.append_assoc]
 generalize (l++if c.Op=2 then [c.Name] else [])=l1 at hlen ⊢
 obtain⟨y,h1,h2⟩:=nj (L:=fun i (s:List aa)=>mT (aM mS) c l ((i:Int),s)) c.Parts.length (fun i s=>s=l1++eI (c.Parts.take i)) (fun y=>y=.inr (l1++eI c.Parts)) (s:=l1)
  (by
   intro i s hi hj
   have hx:=List.getElem?_eq_getElem hi
   have h3:=xg c.Parts i hi
   have h4:=py c.Parts (i+1)
   have h5:=rq (c.Parts.take i)
   refine .inl ⟨l1++eI (c.Parts.take (i+1)),rfl,?_⟩
   show mT (aM mS) c l ((i:Int),s)=_
   rw[G4,kC]
   simp only[cg,decide_eq_true hi,cond_true,ct,hx,Option.bind_some]
   rw[show aM mS (c.Parts[i],s)=_ from ih _ (List.getElem_mem hi) s (by rw[hj,List.length_append];omega),Option.bind_some,dD (by omega),hj,wo _ _ hi,List.append_assoc])
  (by
   intro s hj
   refine⟨_,rfl,?_⟩
   rw[List.take_length] at hj
   show mT (aM mS) c l ((c.Parts.length:Int),s)=_
   rw[G4,kC]
   simp only[cg,decide_eq_false (Nat.lt_irrefl _),cond_false]
   rw[hj]) (by simp[eI])
 rw[show mT (aM mS) c l (0,l1)=some y from h2,h1]
 rfl
theorem N1 {c:Condition}(h:pq c=true)(ho:c.Op=2∨c.Op=3):c.Parts=[]:=by
 rw[ua,Bm,La] at h
 rw[Bool.and_eq_true,Bool.and_eq_true,decide_eq_true_iff] at h
 have:=h.1.2
 rw[if_neg (by omega),if_neg (by omega)] at this
 exact List.length_eq_zero_iff.1 this
theorem Oy (c:Condition):ep c=true→∀l:List aa,l.length+bE c≤1000000→l.Pairwise StrL.Lt→∃r,Jy l c=some r∧r.Pairwise StrL.Lt∧(∀x,x∈r↔x∈l∨x∈jK c)∧r.length≤l.length+bE c:=by
 refine fw (P:=fun c=>ep c=true→∀l:List aa,l.length+bE c≤1000000→l.Pairwise StrL.Lt→∃r,Jy l c=some r∧r.Pairwise StrL.Lt∧(∀x,x∈r↔x∈l∨x∈jK c)∧r.length≤l.length+bE c) ?_ c
 intro c ih hf l hl hs
 have hnc:=fQ c
 have hpl:=hJ c.Parts
 rw[qO,Bool.and_eq_true,List.all_eq_true] at hf
 rw[W1]
 unfold sk
 rw[ta,Hq]
 by_cases ho:c.Op=2
 ·obtain⟨r,e,r1,r2,r3⟩:=StrL.put_val l c.Name (by omega) hs
  rw[decide_eq_true ho,cond_true,e,if_pos ho,N1 hf.1 (.inl ho)]
  exact⟨r,rfl,r1,fun x=>by rw[r2];simp[eI],by omega⟩
 rw[decide_eq_false ho,cond_false,if_neg ho,List.nil_append]
 obtain⟨y,h1,h2⟩:=nj (L:=fun i (s:List aa)=>kV (aM ku) l c ((i:Int),s)) c.Parts.length
  (fun i s=>s.Pairwise StrL.Lt∧(∀x,x∈s↔x∈l∨x∈eI (c.Parts.take i))∧s.length≤l.length+aR (c.Parts.take i))
  (fun y=>∃r,y=.inr r∧r.Pairwise StrL.Lt∧(∀x,x∈r↔x∈l∨x∈eI c.Parts)∧r.length≤l.length+bE c) (s:=l)
  (by
   rintro i s hi ⟨j1,j2,j3⟩
   have hx:=List.getElem?_eq_getElem hi
   have h3:=xg c.Parts i hi
   have h4:=py c.Parts (i+1)
   obtain⟨r,e,r1,r2,r3⟩:=ih _ (List.getElem_mem hi) (hf.2 _ (List.getElem_mem hi)) s (by omega) j1
   refine .inl ⟨r,⟨r1,fun x=>?_,by omega⟩,?_⟩
   ·rw[r2,j2,wo _ _ hi,List.mem_append,or_assoc]
   show kV (aM ku) l c ((i:Int),s)=_
   rw[DS,jh]
   simp only[cg,decide_eq_true hi,cond_true,ct,hx,Option.bind_some]
   rw[show aM ku (s,c.Parts[i])=_ from e,Option.bind_some,dD (by omega)])
  (by
   rintro s ⟨j1,j2,j3⟩
   rw[List.take_length] at *
   refine⟨.inr s,⟨s,rfl,j1,j2,by omega⟩,?_⟩
   show kV (aM ku) l c ((c.Parts.length:Int),s)=_
   rw[DS,jh]
   simp only[cg,decide_eq_false (Nat.lt_irrefl _),cond_false]) ⟨hs,fun x=>by simp[eI],by simp[aR]⟩
 obtain⟨r,rfl,hr⟩:=h1
 rw[show kV (aM ku) l c (0,l)=some (.inr r) from h2]
 exact⟨r,rfl,hr⟩
theorem wb (l:List aa)(s:aa)(hl:l.length≤1048576):mP l s=some (l.contains s):=by
 unfold mP vr
 rw[iY (L:=nQ l s) (a:=l) (p:=fun e=>some (s==e)) (q:=fun e=>s==e) (fun _ _=>rfl) (fun x=>by rw[tB,jf]<;>rfl) (by omega)]
 cases h:l.findIdx? (fun e=>s==e) with
 | none=>
  have:l.contains s=false:=by
   rw[List.findIdx?_eq_none_iff] at h
   rw[Bool.eq_false_iff]
   intro hc
   rw[List.contains_iff_exists_mem_beq] at hc
   obtain⟨w,hw,he⟩:=hc
   rw[h w hw] at he
   cases he
  rw[this]
  rfl
 | some i=>
  have:l.contains s=true:=by
   rw[List.findIdx?_eq_some_iff_getElem] at h
   obtain⟨hi,he,_⟩:=h
   rw[List.contains_iff_exists_mem_beq]
   exact⟨_,List.getElem_mem hi,he⟩
  rw[this]
  simp
theorem Vp (a b:aa):(a==b)=(b==a):=by
 rw[xl,xl]
 by_cases h:a=b
 ·simp[h]
 ·simp[h,Ne.symm h]
theorem MJ (l:List aa)(s:aa)(hl:l.length≤1048576):pa l s=some (l.contains s):=by
 unfold pa
 rw[sP (L:=pO l s) (a:=l) (p:=fun e=>some (e==s)) (q:=fun e=>e==s) (r:=true) (fun _ _=>rfl) (fun x=>by rw[DM,ks]<;>rfl) (by omega)]
 have:(l.any fun e=>e==s)=l.contains s:=by
  rw[List.contains_eq_any_beq]
  congr 1
  funext e
  exact Vp e s
 rw[this]
 cases l.contains s<;>rfl
def Vn (l:List aa)(k:Nat):Bool:=match l[k]? with
 | some e=>!fH e||(l.take k).contains e
 | none=>false
def wy (l:List aa):Nat→Nat→Bool
 | 0,_=>true
 | n+1,k=>!Vn l k&&wy l n (k+1)
theorem Bu {α:Type}{l:List α}{k:Nat}(h:k≤l.length):ph l 0 (k:Int)=some (l.take k):=by
 unfold ph
 rw[if_pos (by omega)]
 simp
theorem yI (l:List aa)(cs:List Clause)(hl:ib mL l):∀(n k:Nat),k+n=l.length→sB ⟨l,cs⟩ (k:Int)=some (bif wy l n k then .inr () else .inl false)
 | 0,k,hk=>by
  have h1:=hl.1
  rw[Ef,kz]
  simp only[cg]
  rw[decide_eq_false (by omega)]
  rfl
 | n+1,k,hk=>by
  have h1:=hl.1
  obtain⟨e,he⟩:∃e,l[k]?=some e:=⟨_,List.getElem?_eq_getElem (by omega)⟩
  rw[Ef,kz]
  simp only[cg]
  rw[decide_eq_true (by omega)]
  simp only[cond_true,ct,he,Option.bind_some,mM e (hl.2 e (List.mem_of_getElem? he)),Bu (show k≤l.length by omega),MJ _ e (show (l.take k).length≤1048576 by rw[List.length_take];omega)]
  rw[dD (by omega),yI l cs hl n (k+1) (by omega)]
  simp only[wy,Vn,he]
  cases fH e<;>cases (l.take k).contains e<;>rfl
theorem yy (l:List aa)(hl:ib mL l):∀(n k:Nat),k+n=l.length→vS l (k:Int)=some (bif wy l n k then .inr () else .inl false)
 | 0,k,hk=>by
  have h1:=hl.1
  rw[G5,lS]
  simp only[cg]
  rw[decide_eq_false (by omega)]
  rfl
 | n+1,k,hk=>by
  have h1:=hl.1
  obtain⟨e,he⟩:∃e,l[k]?=some e:=⟨_,List.getElem?_eq_getElem (by omega)⟩
  rw[G5,lS]
  simp only[cg]
  rw[decide_eq_true (by omega)]
  simp only[cond_true,ct,he,Option.bind_some,mG e (hl.2 e (List.mem_of_getElem? he)),Bu (show k≤l.length by omega),wb _ e (show (l.take k).length≤1048576 by rw[List.length_take];omega)]
  rw[dD (by omega),yy l hl n (k+1) (by omega)]
  simp only[wy,Vn,he]
  cases fH e<;>cases (l.take k).contains e<;>rfl
def pD (l:List aa):Bool:=wy l l.length 0&&ek (len l) 2 4
theorem V3 (l:List aa)(cs:List Clause)(hl:ib mL l):vN ⟨l,cs⟩=some (pD l):=by
 unfold vN pD
 have:=yI l cs hl l.length 0 (by omega)
 rw[show (0:Int)=((0:Nat):Int) by rfl,this]
 simp only[ln]
 cases wy l l.length 0<;>rfl
theorem VH (l:List aa)(hl:ib mL l):JP l=some (pD l):=by
 unfold JP pD
 have:=yy l hl l.length 0 (by omega)
 rw[show (0:Int)=((0:Nat):Int) by rfl,this]
 simp only[jW]
 cases wy l l.length 0<;>rfl
def jv (cs:List Clause)(id:aa):Int:=match cs.findIdx? (fun e=>e.Id==id) with
 | some i=>(i:Int)
 | none=>-1
theorem HD (c:Contract)(id:aa)(hl:c.Clauses.length≤1048576):tF c id=some (jv c.Clauses id):=by
 unfold tF jv
 rw[iY (L:=sx c id) (a:=c.Clauses) (p:=fun e=>some (e.Id==id)) (q:=fun e=>e.Id==id) (fun _ _=>rfl) (fun x=>by rw[Ny,mr]<;>rfl) (by omega)]
 cases c.Clauses.findIdx? (fun e=>e.Id==id)<;>rfl
theorem Hm (c:Contract)(id:aa)(hl:c.Clauses.length≤1048576):EM c id=some (jv c.Clauses id):=by
 unfold EM FY jv
 rw[iY (L:=rY c.Clauses id) (a:=c.Clauses) (p:=fun e=>some (e.Id==id)) (q:=fun e=>e.Id==id) (fun _ _=>rfl) (fun x=>by rw[No,mf]<;>rfl) (by omega)]
 cases c.Clauses.findIdx? (fun e=>e.Id==id)<;>rfl
theorem MC (cs:List Clause)(id:aa):jv cs id=-1∨∃j:Nat,jv cs id=(j:Int)∧j<cs.length:=by
 unfold jv
 cases h:cs.findIdx? (fun e=>e.Id==id) with
 | none=>exact .inl rfl
 | some j=>
  rw[List.findIdx?_eq_some_iff_getElem] at h
  exact .inr ⟨j,rfl,h.1⟩
def KZ (cs:List Clause)(i:Int)(e:Clause):Bool:=match jv cs e.Repair with
 | .ofNat k=>match cs[k]? with
  | some e'=>((k:Int) != i)&&((e'.Kind==1)&&(e.Kind != 3))
  | none=>false
 | .negSucc _=>false
def jS (c:Contract)(i:Int)(e:Clause):Bool:=
 fH e.Id&&(fH e.Action&&(ek e.Kind 1 4&&(ek e.Party 0 (az (len c.Parties - 1))&&(ek e.Other 0 (az (len c.Parties - 1))&&(!(e.Party==e.Other)&&(ot e.When&&(ek e.Amount 0 1000000&&(ek e.Within 0 400&&(!(bif e.Kind != 1 then (bif e.Amount != 0 then true else e.Within != 0) else false) &&
  (bif e.Repair==[] then true else KZ c.Clauses i e))))))))))
theorem V4 (c:Contract)(i:Int)(e:Clause)(hl:c.Clauses.length≤1048576):((tF c e.Repair).bind fun r8=>bd (ρ:=Bool) (bif (decide (r8≥0)) then (bZ (ρ:=Bool) (bif (r8 != i) then ((aP c.Clauses r8).bind fun e11=>cT (bif (e11.Kind==1) then ((e.Kind != 3)) else (false)) fun u12:Bool=>some (.inr u12)) else (some (.inr false))) fun u10:Bool=>some (.inr u10)) else (some (.inr false))) fun u9:Bool=>some u9)=some (KZ c.Clauses i e):=by
 rw[HD c _ hl,Option.bind_some]
 unfold KZ
 rcases MC c.Clauses e.Repair with h | ⟨j,h,hj⟩
 ·rw[h];rfl
 ·rw[h,decide_eq_true (by omega),cond_true,ct,List.getElem?_eq_getElem hj,Option.bind_some]
  show _=some (match c.Clauses[j]? with | some e'=>_ | none=>false)
  rw[List.getElem?_eq_getElem hj]
  show _=some (((j:Int) != i)&&((c.Clauses[j].Kind==1)&&(e.Kind != 3)))
  cases ((j:Int) != i)<;>cases (c.Clauses[j].Kind==1)<;>rfl
theorem VI (c:Contract)(i:Int)(e:Clause)(hl:c.Clauses.length≤1048576):((EM c e.Repair).bind fun r10=>bd (ρ:=Bool) (bif (e.Kind != 3) then (bZ (ρ:=Bool) (bif (decide (r10≥0)) then (bZ (ρ:=Bool) (bif (r10 != i) then ((aP c.Clauses r10).bind fun e14=>some (.inr (e14.Kind==1))) else (some (.inr false))) fun u13:Bool=>some (.inr u13)) else (some (.inr false))) fun u12:Bool=>some (.inr u12)) else (some (.inr false))) fun u11:Bool=>some u11)=some (KZ c.Clauses i e):=by
 rw[Hm c _ hl,Option.bind_some]
 unfold KZ
 rcases MC c.Clauses e.Repair with h | ⟨j,h,hj⟩
 ·rw[h];cases (e.Kind != 3)<;>rfl
 ·rw[h,decide_eq_true (by omega),cond_true,ct,List.getElem?_eq_getElem hj,Option.bind_some]
  show _=some (match c.Clauses[j]? with | some e'=>_ | none=>false)
  rw[List.getElem?_eq_getElem hj]
  show _=some (((j:Int) != i)&&((c.Clauses[j].Kind==1)&&(e.Kind != 3)))
  cases ((j:Int) != i)<;>cases (c.Clauses[j].Kind==1)<;>cases (e.Kind != 3)<;>rfl
theorem Mf (c:Contract)(i:Int)(e:Clause)(he:aP c.Clauses i=some e)(hs:gF e)(hl:c.Clauses.length≤1048576):AC c i=some (jS c i e):=by
 unfold AC jS
 rw[he,Option.bind_some,V4 c i e hl]
 simp only[mM _ hs.1,mM _ hs.2.2.2.1,ln,S4 _ hs.2.2.2.2.2.2.1,Option.bind_some,gh]
 cases fH e.Id with | false=>rfl | true=>?_
 cases fH e.Action with | false=>rfl | true=>?_
 cases ek e.Kind 1 4 with | false=>rfl | true=>?_
 cases ek e.Party 0 (az (len c.Parties - 1)) with | false=>rfl | true=>?_
 cases ek e.Other 0 (az (len c.Parties - 1)) with | false=>rfl | true=>?_
 cases (e.Party==e.Other) with | true=>rfl | false=>?_
 cases ot e.When with | false=>rfl | true=>?_
 cases ek e.Amount 0 1000000 with | false=>rfl | true=>?_
 cases ek e.Within 0 400 with | false=>rfl | true=>?_
 cases (bif e.Kind != 1 then (bif e.Amount != 0 then true else e.Within != 0) else false) with | true=>rfl | false=>?_
 cases (e.Repair==([]:aa))<;>rfl
theorem L8 (c:Contract)(i:Int)(e:Clause)(he:aP c.Clauses i=some e)(hs:gF e)(hl:c.Clauses.length≤1048576):JS c i=some ((jv c.Clauses e.Id==i)&&jS c i e):=by
 unfold JS jS
 rw[he,Option.bind_some,VI c i e hl]
 simp only[mG _ hs.1,mG _ hs.2.2.2.1,jW,Sy _ hs.2.2.2.2.2.2.1,Option.bind_some,gh,Hm c _ hl,bne]
 cases fH e.Id with | false=>cases (jv c.Clauses e.Id==i)<;>rfl | true=>?_
 cases (jv c.Clauses e.Id==i) with | false=>rfl | true=>?_
 cases fH e.Action with | false=>rfl | true=>?_
 cases ek e.Kind 1 4 with | false=>rfl | true=>?_
 cases ek e.Party 0 (az (len c.Parties - 1)) with | false=>rfl | true=>?_
 cases ek e.Other 0 (az (len c.Parties - 1)) with | false=>rfl | true=>?_
 cases (e.Party==e.Other) with | true=>rfl | false=>?_
 cases ot e.When with | false=>rfl | true=>?_
 cases ek e.Amount 0 1000000 with | false=>rfl | true=>?_
 cases ek e.Within 0 400 with | false=>rfl | true=>?_
 cases (bif !(e.Kind==1) then (bif !(e.Amount==0) then true else !(e.Within==0)) else false) with | true=>rfl | false=>?_
 cases (e.Repair==([]:aa))<;>rfl
def rz (c:Contract)(i:Nat):Bool:=match c.Clauses[i]? with
 | some e=>(jv c.Clauses e.Id==(i:Int))&&jS c (i:Int) e
 | none=>true
def iy (c:Contract):Bool:=!((List.range c.Clauses.length).any fun i=>!rz c i)
theorem qi {c:Contract}:iy c=true↔∀(i:Nat) e,c.Clauses[i]?=some e→jv c.Clauses e.Id=(i:Int)∧jS c (i:Int) e=true:=by
 unfold iy
 rw[Bool.not_eq_true',←Bool.not_eq_true,List.any_eq_true]
 constructor
 ·intro h i e he
  have hi:=(List.getElem?_eq_some_iff.1 he).1
  cases h1:rz c i with
  | false=>exact absurd ⟨i,List.mem_range.2 hi,by rw[h1];rfl⟩ h
  | true=>
   simp only[rz,he,Bool.and_eq_true,beq_iff_eq] at h1
   exact h1
 ·rintro h ⟨i,hi,h2⟩
  rw[List.mem_range] at hi
  have h1:=h i _ (List.getElem?_eq_getElem hi)
  simp only[rz,List.getElem?_eq_getElem hi,h1.1,h1.2,beq_self_eq_true,Bool.and_self,Bool.not_true] at h2
  cases h2
theorem K7 (c:Contract)(hc:eL c):kX c 0=some (bif iy c then .inr () else .inl false):=by
 have hl:c.Clauses.length≤1048576:=hc.2.1
 have h:=tR (a:=List.range c.Clauses.length) (q:=fun i=>!rz c i) (y0:=(Sum.inl false:Bool⊕Unit)) (y1:=.inr ()) (L:=fun i=>kX c (i:Int))
  (fun i x hx=>by
   obtain⟨hi,hx'⟩:=List.getElem?_eq_some_iff.1 hx
   rw[List.getElem_range] at hx'
   subst hx'
   rw[List.length_range] at hi
   have he:=List.getElem?_eq_getElem hi
   have hg:aP c.Clauses (i:Int)=some c.Clauses[i]:=by rw[ct,he]
   show kX c (i:Int)=_
   rw[D8,kx,cg,decide_eq_true hi,cond_true,hg,Option.bind_some,HD c _ hl,Option.bind_some,Mf c _ _ hg (hc.2.2 _ (List.getElem_mem hi)) hl,dD (by omega)]
   simp only[rz,he,bne]
   cases (jv c.Clauses c.Clauses[i].Id==(i:Int))<;>cases jS c (i:Int) c.Clauses[i]<;>rfl)
  (by
   rw[List.length_range]
   show kX c (c.Clauses.length:Int)=_
   rw[D8,kx,cg,decide_eq_false (Nat.lt_irrefl _),cond_false])
 rw[show kX c 0=_ from h]
 unfold iy
 cases (List.range c.Clauses.length).any fun i=>!rz c i<;>rfl
theorem KD (c:Contract)(hc:eL c):mO c 0=some (bif iy c then .inr () else .inl false):=by
 have hl:c.Clauses.length≤1048576:=hc.2.1
 have h:=tR (a:=List.range c.Clauses.length) (q:=fun i=>!rz c i) (y0:=(Sum.inl false:Bool⊕Unit)) (y1:=.inr ()) (L:=fun i=>mO c (i:Int))
  (fun i x hx=>by
   obtain⟨hi,hx'⟩:=List.getElem?_eq_some_iff.1 hx
   rw[List.getElem_range] at hx'
   subst hx'
   rw[List.length_range] at hi
   have he:=List.getElem?_eq_getElem hi
   have hg:aP c.Clauses (i:Int)=some c.Clauses[i]:=by rw[ct,he]
   show mO c (i:Int)=_
   rw[GU,lQ,cg,decide_eq_true hi,cond_true,L8 c _ _ hg (hc.2.2 _ (List.getElem_mem hi)) hl,Option.bind_some,dD (by omega)]
   simp only[rz,he])
  (by
   rw[List.length_range]
   show mO c (c.Clauses.length:Int)=_
   rw[GU,lQ,cg,decide_eq_false (Nat.lt_irrefl _),cond_false])
 rw[show mO c 0=_ from h]
 unfold iy
 cases (List.range c.Clauses.length).any fun i=>!rz c i<;>rfl
def i8 (cs:List Clause):List aa:=cs.flatMap fun e=>e.Action::jK e.When
theorem v7 {c:Contract}{i:Int}{e:Clause}(h:jS c i e=true):ot e.When=true:=by
 simp only[jS,Bool.and_eq_true] at h
 exact h.2.2.2.2.2.2.1
theorem ru (cs:List Clause)(i:Nat)(h:i<cs.length):i8 (cs.take (i+1))=i8 (cs.take i)++(cs[i].Action::jK cs[i].When):=by
 unfold i8
 rw[List.take_add_one,List.getElem?_eq_getElem h,List.flatMap_append]
 simp
theorem Bj (c:Contract)(hc:eL c)(h12:c.Clauses.length≤12)(hv:iy c=true):∃r,nR c=some r∧sJ c=some r∧r.Pairwise StrL.Lt∧(∀x,x∈r↔x∈i8 c.Clauses)∧r.length≤1000:=by
 have hcond:∀i (hi:i<c.Clauses.length),ep c.Clauses[i].When=true∧bE c.Clauses[i].When≤15:=fun i hi=>by
  have h1:=v7 (qi.1 hv i _ (List.getElem?_eq_getElem hi)).2
  unfold ot at h1
  rw[Bool.and_eq_true,decide_eq_true_iff] at h1
  exact h1
 have hs:∃r,nR c=some r∧r.Pairwise StrL.Lt∧(∀x,x∈r↔x∈i8 c.Clauses)∧r.length≤16*c.Clauses.length:=by
  obtain⟨y,⟨r,rfl,hr⟩,h2⟩:=nj (L:=fun i (s:List aa)=>mt c ((i:Int),s)) c.Clauses.length
   (fun i s=>s.Pairwise StrL.Lt∧(∀x,x∈s↔x∈i8 (c.Clauses.take i))∧s.length≤16*i)
   (fun y=>∃r,y=.inr r∧r.Pairwise StrL.Lt∧(∀x,x∈r↔x∈i8 c.Clauses)∧r.length≤16*c.Clauses.length) (s:=[])
   (by
    rintro i s hi ⟨j1,j2,j3⟩
    have he:=List.getElem?_eq_getElem hi
    obtain⟨f1,f2⟩:=hcond i hi
    obtain⟨r1,e1,p1,m1,l1⟩:=StrL.put_val s c.Clauses[i].Action (by omega) j1
    obtain⟨r2,e2,p2,m2,l2⟩:=Oy _ f1 r1 (by omega) p1
    refine .inl ⟨r2,⟨p2,fun x=>?_,by omega⟩,?_⟩
    ·rw[m2,m1,j2,ru _ _ hi,List.mem_append,List.mem_cons,or_assoc]
    ·show mt c ((i:Int),s)=_
     rw[Eb,ky]
     simp only[cg,decide_eq_true hi,cond_true,ct,he,Option.bind_some,e1,e2]
     rw[dD (by omega)])
   (by
    rintro s ⟨j1,j2,j3⟩
    rw[List.take_length] at j2
    refine⟨.inr s,⟨s,rfl,j1,j2,j3⟩,?_⟩
    show mt c ((c.Clauses.length:Int),s)=_
    rw[Eb,ky]
    simp only[cg,decide_eq_false (Nat.lt_irrefl _),cond_false]) ⟨List.Pairwise.nil,fun x=>by simp[i8],by simp⟩
  refine⟨r,?_,hr⟩
  unfold nR
  rw[show mt c (0,[])=some (.inr r) from h2]
  rfl
 obtain⟨r,e,p,m,l⟩:=hs
 refine⟨r,e,?_,p,m,by omega⟩
 obtain⟨y,h1,h2⟩:=nj (L:=fun i (s:List aa)=>oM c ((i:Int),s)) c.Clauses.length
  (fun i s=>s=i8 (c.Clauses.take i)∧s.length≤16*i) (fun y=>y=.inr (i8 c.Clauses)∧(i8 c.Clauses).length≤16*c.Clauses.length) (s:=[])
  (by
   rintro i s hi ⟨j1,j2⟩
   have he:=List.getElem?_eq_getElem hi
   obtain⟨f1,f2⟩:=hcond i hi
   have hlen:=Fk c.Clauses[i].When
   refine .inl ⟨i8 (c.Clauses.take (i+1)),⟨rfl,?_⟩,?_⟩
   ·rw[ru _ _ hi,←j1,List.length_append,List.length_cons];omega
   ·show oM c ((i:Int),s)=_
    rw[G7,lT]
    simp only[cg,decide_eq_true hi,cond_true,ct,he,Option.bind_some]
    rw[A9 (by omega) (by omega),Option.bind_some,Ob _ _ (by rw[List.length_append,List.length_singleton];omega),Option.bind_some,dD (by omega),ru _ _ hi,←j1,List.append_assoc]
    try rfl)
  (by
   rintro s ⟨j1,j2⟩
   rw[List.take_length] at j1
   refine⟨_,⟨rfl,by rw[←j1];exact j2⟩,?_⟩
   show oM c ((c.Clauses.length:Int),s)=_
   rw[G7,lT]
   simp only[cg,decide_eq_false (Nat.lt_irrefl _),cond_false]
   rw[j1]) ⟨by simp[i8],by simp⟩
 unfold sJ
 rw[show oM c (0,[])=some y from h2,h1.1,eh,Tq _ r (by omega) p m]
 rfl
noncomputable def io (c:Contract):Bool:=(ek (len c.Clauses) 1 12&&pD c.Parties)&&(iy c&&(match nR c with | some r=>decide (len r≤16) | none=>false))
theorem uO (c:Contract)(hc:eL c):AG c=some (io c):=by
 unfold AG io
 have hp:=V3 c.Parties c.Clauses hc.1
 rw[ln,show vN c=_ from hp,K7 c hc,Option.bind_some]
 cases h1:ek (len c.Clauses) 1 12 with | false=>rfl | true=>?_
 cases pD c.Parties with | false=>rfl | true=>?_
 cases h2:iy c with | false=>rfl | true=>?_
 rw[mH] at h1
 obtain⟨r,e,_⟩:=Bj c hc (by simp only[len] at h1;omega) h2
 rw[e]
 rfl
theorem uK (c:Contract)(hc:eL c):IZ c=some (io c):=by
 unfold IZ io
 rw[VH c.Parties hc.1,KD c hc,Option.bind_some,jW]
 cases h1:ek (len c.Clauses) 1 12 with | false=>cases pD c.Parties<;>rfl | true=>?_
 cases pD c.Parties with | false=>rfl | true=>?_
 cases h2:iy c with | false=>rfl | true=>?_
 rw[mH] at h1
 obtain⟨r,e,e2,_⟩:=Bj c hc (by simp only[len] at h1;omega) h2
 rw[e,e2]
 rfl
theorem wc {c:Contract}(h:io c=true):1≤c.Clauses.length∧c.Clauses.length≤12∧pD c.Parties=true∧∀(i:Nat) e,c.Clauses[i]?=some e→jv c.Clauses e.Id=(i:Int)∧jS c (i:Int) e=true:=by
 simp only[io,Bool.and_eq_true,mH] at h
 obtain⟨⟨⟨h1,h2⟩,h3⟩,h4,_⟩:=h
 simp only[len] at h1 h2
 exact⟨by omega,by omega,h3,qi.1 h4⟩
theorem SD {α:Type}(l:List α)(i:Int)(hl:l.length≤1048576):ek i 0 (az (len l - 1))=(aP l i).isSome:=by
 unfold len
 rw[jN (by omega) (by omega)]
 unfold ek aP
 by_cases h0:0≤i
 ·rw[if_pos h0,decide_eq_true h0,Bool.true_and]
  by_cases h1:i≤(l.length:Int) - 1
  ·rw[decide_eq_true h1,List.getElem?_eq_getElem (by omega)];rfl
  ·rw[decide_eq_false h1,List.getElem?_eq_none (by omega)];rfl
 ·rw[if_neg h0,decide_eq_false h0];rfl
theorem E6 {α:Type}{L:Int→Option (Int⊕Unit)}{a:List α}{q:α→Bool}(h:L 0=some (match a.findIdx? q with | some i=>.inl (i:Int) | none=>.inr ())):((bd (ρ:=Int) (L 0) fun _:Unit=>some (-1)).bind fun r=>some (decide (r≥0)))=some (a.any q):=by
 rw[h]
 cases h1:a.findIdx? q with
 | none=>
  have:a.any q=false:=by
   rw[List.findIdx?_eq_none_iff] at h1
   rw[List.any_eq_false]
   intro x hx
   rw[h1 x hx]
   exact Bool.false_ne_true
  rw[this]
  rfl
 | some i=>
  have:a.any q=true:=by
   rw[List.findIdx?_eq_some_iff_getElem] at h1
   obtain⟨hi,he,_⟩:=h1
   rw[List.any_eq_true]
   exact⟨_,List.getElem_mem hi,he⟩
  rw[this]
  simp
def tf (l:List aa)(k:Nat):Bool:=match l[k]? with
 | some e=>fH e&&(match k with
  | 0=>true
  | j+1=>match l[j]? with
   | some p=>Op.bytesLess p e
   | none=>true)
 | none=>true
def ni (l:List aa):Bool:=decide (l.length≤16) && !((List.range l.length).any fun k=>!tf l k)
theorem aaG (a b:aa):(Op.bytesLess b a||b==a)=!Op.bytesLess a b:=by
 rcases StrL.tri a b with h | h | h
 ·have h2:Op.bytesLess b a=false:=Bool.eq_false_iff.2 fun h3=>StrL.Lt.asymm h h3
  have h3:(b==a)=false:=beq_eq_false_iff_ne.2 fun e=>StrL.Lt.ne h e.symm
  rw[h2,h3,show Op.bytesLess a b=true from h];rfl
 ·subst h
  rw[StrL.lt_irrefl,beq_self_eq_true];rfl
 ·have h2:Op.bytesLess a b=false:=Bool.eq_false_iff.2 fun h3=>StrL.Lt.asymm h h3
  rw[h2,show Op.bytesLess b a=true from h];rfl
theorem uQ (l:List aa)(hl:ib mL l)(k:Nat)(hk:k<l.length)(hk16:k≤16):ie l (k:Int)=bif !tf l k then some (.inl false) else ie l ((k+1:Nat):Int):=by
 have he:=List.getElem?_eq_getElem hk
 have hlen:l.length≤1048576:=hl.1
 rw[tD,jg,cg,decide_eq_true hk,cond_true,decide_eq_true (by omega),gh,cond_true,ct,he,Option.bind_some,mM _ (hl.2 _ (List.getElem_mem hk)),Option.bind_some,dD (by omega)]
 cases k with
 | zero=>
  simp only[tf,he]
  cases fH l[0]<;>rfl
 | succ j=>
  have hj:j<l.length:=by omega
  rw[decide_eq_true (by omega),cond_true,show az (((j+1:Nat):Int) - 1)=(j:Int) by rw[jN (by omega) (by omega)];omega,ct,List.getElem?_eq_getElem hj,Option.bind_some]
  simp only[tf,he,List.getElem?_eq_getElem hj,Option.bind_some]
  cases fH l[j+1]<;>cases Op.bytesLess l[j] l[j+1]<;>rfl
theorem HI (l:List aa)(hl:ib mL l)(k:Nat)(hk:k<l.length):mV l (k:Int)=bif !tf l k then some (.inl false) else mV l ((k+1:Nat):Int):=by
 have he:=List.getElem?_eq_getElem hk
 have hlen:l.length≤1048576:=hl.1
 rw[G8,lU,cg,decide_eq_true hk,cond_true,ct,he,Option.bind_some,mG _ (hl.2 _ (List.getElem_mem hk)),Option.bind_some,dD (by omega)]
 cases k with
 | zero=>
  simp only[tf,he]
  cases fH l[0]<;>rfl
 | succ j=>
  have hj:j<l.length:=by omega
  rw[decide_eq_true (by omega),cond_true,show az (((j+1:Nat):Int) - 1)=(j:Int) by rw[jN (by omega) (by omega)];omega,ct,List.getElem?_eq_getElem hj,Option.bind_some,aaG]
  simp only[tf,he,List.getElem?_eq_getElem hj]
  cases fH l[j+1]<;>cases Op.bytesLess l[j] l[j+1]<;>rfl
theorem oX {L:Nat→Option (Bool⊕Unit)}{n:Nat}{q:Nat→Bool}(hs:∀k,k<n→L k=bif q k then some (.inl false) else L (k+1))(he:L n=some (.inr ())):L 0=some (if (List.range n).any q then .inl false else .inr ()):=by
 refine tR (a:=List.range n) (q:=q) (y0:=(Sum.inl false:Bool⊕Unit)) (y1:=.inr ()) (L:=L) (fun i x hx=>?_) (by rw[List.length_range];exact he)
 obtain⟨hi,hx'⟩:=List.getElem?_eq_some_iff.1 hx
 rw[List.getElem_range] at hx'
 subst hx'
 rw[List.length_range] at hi
 exact hs i hi
theorem N9 (l:List aa)(hl:ib mL l):JY l=some (ni l):=by
 have hlen:l.length≤1048576:=hl.1
 have h:=oX (L:=fun k=>mV l (k:Int)) (n:=l.length) (q:=fun k=>!tf l k) (fun k hk=>HI l hl k hk) (by
  show mV l (l.length:Int)=_
  rw[G8,lU,cg,decide_eq_false (Nat.lt_irrefl _),cond_false])
 unfold JY
 rw[show mV l 0=_ from h]
 unfold ni
 have h16:decide (len l≤16)=decide (l.length≤16):=by
  have:(len l≤16)↔l.length≤16:=by unfold len;omega
  simp only[this]
 cases (List.range l.length).any fun k=>!tf l k<;>simp[h16]
theorem Ov (l:List aa)(hl:ib mL l):An l=some (ni l):=by
 have hlen:l.length≤1048576:=hl.1
 have h16:decide (len l≤16)=decide (l.length≤16):=by
  have:(len l≤16)↔l.length≤16:=by unfold len;omega
  simp only[this]
 unfold An
 by_cases hm:l.length≤16
 ·have h:=oX (L:=fun k=>ie l (k:Int)) (n:=l.length) (q:=fun k=>!tf l k) (fun k hk=>uQ l hl k hk (by omega)) (by
   show ie l (l.length:Int)=_
   rw[tD,jg,cg,decide_eq_false (Nat.lt_irrefl _),cond_false,gh,cond_false])
  rw[show ie l 0=_ from h]
  unfold ni
  cases (List.range l.length).any fun k=>!tf l k<;>simp[h16]
 ·have h:=oX (L:=fun k=>ie l (k:Int)) (n:=17) (q:=fun k=>!tf l k) (fun k hk=>uQ l hl k (by omega) (by omega)) (by
   show ie l ((17:Nat):Int)=_
   rw[tD,jg,cg]
   by_cases h17:17<l.length
   ·rw[decide_eq_true h17];rfl
   ·rw[decide_eq_false h17];rfl)
  rw[show ie l 0=_ from h]
  unfold ni
  rw[h16,decide_eq_false hm]
  cases (List.range 17).any fun k=>!tf l k<;>rfl
def wd (c:Contract)(i:aa):Bool:=c.Clauses.any fun x=>x.Repair==i
theorem V2 (c:Contract)(i:Int)(e:Clause)(he:aP c.Clauses i=some e)(hl:c.Clauses.length≤1048576):AE c i=some (wd c e.Id):=by
 unfold AE
 rw[sP (L:=sw c i) (a:=c.Clauses) (p:=fun x=>some (x.Repair==e.Id)) (q:=fun x=>x.Repair==e.Id) (r:=true) (fun _ _=>rfl) (fun x=>by rw[Nx,mq];simp only[he,Option.bind_some]) (by omega)]
 unfold wd
 cases c.Clauses.any fun x=>x.Repair==e.Id<;>rfl
theorem VG (c:Contract)(i:Int)(e:Clause)(he:aP c.Clauses i=some e)(hl:c.Clauses.length≤1048576):JV c i=some (wd c e.Id):=by
 unfold JV FU FZ
 rw[E6 (iY (L:=rZ c.Clauses (c,i)) (a:=c.Clauses) (p:=fun x=>JW x c i) (q:=fun x=>x.Repair==e.Id) (fun x _=>by rw[JW,he];rfl) (fun x=>by rw[Np,mg]) (by omega))]
 rfl
theorem V1 (s:State)(i:Int)(hl:s.Duties.length≤1048576):AL s i=some ((s.Duties.countP (fun d=>d.Clause==i):Nat):Int):=by
 unfold AL
 obtain⟨y,rfl,h⟩:=nj (L:=fun k (n:Int)=>kY s i (n,(k:Int))) s.Duties.length (fun k n=>n=(((s.Duties.take k).countP (fun d=>d.Clause==i):Nat):Int)) (fun y=>y=.inr ((s.Duties.countP (fun d=>d.Clause==i):Nat):Int)) (s:=0)
  (by
   rintro k n hk rfl
   have hx:=List.getElem?_eq_getElem hk
   refine .inl ⟨_,rfl,?_⟩
   show kY s i (_,(k:Int))=kY s i (_,((k+1:Nat):Int))
   rw[Em,kA]
   simp only[cg,decide_eq_true hk,cond_true,ct,hx,Option.bind_some,gh]
   rw[show az ((k:Int)+1)=((k+1:Nat):Int) from dD (by omega)]
   have h1:(s.Duties.take (k+1)).countP (fun d=>d.Clause==i)=(s.Duties.take k).countP (fun d=>d.Clause==i)+if (s.Duties[k].Clause==i)=true then 1 else 0:=by
    rw[List.take_add_one,hx,List.countP_append,Option.toList_some,List.countP_singleton]
   have h2:=List.countP_le_length (l:=s.Duties.take k) (p:=fun d=>d.Clause==i)
   rw[List.length_take] at h2
   rw[h1]
   cases h3:s.Duties[k].Clause==i with
   | false=>simp
   | true=>rw[cond_true,jN (by omega) (by omega)];simp)
  (by
   rintro n rfl
   refine⟨_,rfl,?_⟩
   show kY s i (_,(s.Duties.length:Int))=_
   rw[Em,kA]
   simp only[cg,decide_eq_false (Nat.lt_irrefl _),cond_false,List.take_length]) (by simp)
 rw[show kY s i (0,0)=_ from h]
 rfl
def pE (D:List Duty)(k:Nat)(d:Duty):Bool:=match k with
 | 0=>false
 | j+1=>match D[j]? with
  | some p=>decide (p.Since>d.Since)
  | none=>false
def lP (s:State)(d:Duty):Bool:=bif d.Status==1 then (decide (d.Due≥s.Day) && !s.Over) else bif d.Status==2 then true else bif d.Status==3 then decide (d.Due<s.Day) else bif d.Status==4 then s.Over else false
def clB (s:State)(d:Duty)(e:Clause):Bool:=(e.Kind==1)&&(ek d.Since 0 s.Day&&((d.Due==az (d.Since+e.Within))&&ek d.Due 0 36524))
def wW (c:Contract)(s:State)(k:Nat)(d:Duty):Bool:=match aP c.Clauses d.Clause with
 | some e=>clB s d e&&(!pE s.Duties k d&&lP s d)
 | none=>false
def tW (c:Contract)(i:Int):Bool:=match aP c.Clauses i with
 | some e=>wd c e.Id
 | none=>false
theorem abV {s:State}{d:Duty}(h:lP s d=true):ek d.Status 1 4=true:=by
 unfold lP at h
 rw[mH]
 cases h1:d.Status==1 with
 | true=>have:=eq_of_beq h1;omega
 | false=>
  cases h2:d.Status==2 with
  | true=>have:=eq_of_beq h2;omega
  | false=>
   cases h3:d.Status==3 with
   | true=>have:=eq_of_beq h3;omega
   | false=>
    cases h4:d.Status==4 with
    | true=>have:=eq_of_beq h4;omega
    | false=>rw[h1,h2,h3,h4] at h;cases h
theorem aaQ (s:State)(d:Duty)(h:ek d.Status 1 4=true):(bif d.Status==1 then (bif decide (d.Due<s.Day) then true else (bif s.Over then true else (bif d.Status==3 then (bif decide (d.Due≥s.Day) then true else (bif d.Status==4 then !s.Over else false)) else (bif d.Status==4 then !s.Over else false)))) else (bif d.Status==3 then (bif decide (d.Due≥s.Day) then true else (bif d.Status==4 then !s.Over else false)) else (bif d.Status==4 then !s.Over else false)))=!lP s d:=by
 rw[mH] at h
 unfold lP
 have hd:decide (d.Due≥s.Day)=!decide (d.Due<s.Day):=by
  by_cases h2:d.Due<s.Day
  ·rw[decide_eq_true h2,decide_eq_false (by omega)];rfl
  ·rw[decide_eq_false h2,decide_eq_true (by omega)];rfl
 rw[hd]
 generalize decide (d.Due<s.Day)=x
 have h4:d.Status=1∨d.Status=2∨d.Status=3∨d.Status=4:=by omega
 rcases h4 with h4 | h4 | h4 | h4<;>rw[h4]<;>cases x<;>cases s.Over<;>rfl
theorem S5 (c:Contract)(s:State)(k:Nat)(hk:k<s.Duties.length)(hl:s.Duties.length≤1048576)(hc:c.Clauses.length≤1048576) :
  AN c s (k:Int)=some (wW c s k s.Duties[k]&&(tW c s.Duties[k].Clause||s.Duties.countP (fun d=>d.Clause==s.Duties[k].Clause)==1)):=by
 have he:=List.getElem?_eq_getElem hk
 unfold AN
 rw[ct,he,Option.bind_some]
 have hp:∀(f:Bool→Option (Bool⊕Bool)) (g:Duty→Option (Bool⊕Bool)) ,(∀p,g p=f (decide (p.Since>s.Duties[k].Since)))→(bif decide ((k:Int)>0) then ((aP s.Duties (az ((k:Int) - 1))).bind g) else f false)=f (pE s.Duties k s.Duties[k]):=by
  intro f g hg
  cases k with
  | zero=>rfl
  | succ j=>
   have hj:j<s.Duties.length:=by omega
   rw[decide_eq_true (by omega),cond_true,show az (((j+1:Nat):Int) - 1)=(j:Int) by rw[jN (by omega) (by omega)];omega,ct,List.getElem?_eq_getElem hj,Option.bind_some,hg]
   simp only[pE,List.getElem?_eq_getElem hj]
 generalize s.Duties[k]=d at *
 rw[ln,Option.bind_some,SD _ _ hc]
 unfold wW
 cases hg:aP c.Clauses d.Clause with
 | none=>rfl
 | some e=>
  rw[Option.isSome_some]
  simp only[Bool.not_true,cond_false,Option.bind_some,ln,pW]
  unfold clB
  cases h1:e.Kind==1 with
  | false=>rw[bne,h1];rfl
  | true=>
   rw[bne,h1]
   cases h2:ek d.Since 0 s.Day with
   | false=>rfl
   | true=>
    cases h3:d.Due==az (d.Since+e.Within) with
    | false=>rw[bne,h3];rfl
    | true=>
     rw[bne,h3]
     cases h4:ek d.Due 0 36524 with
     | false=>rfl
     | true=>
      cases h5:ek d.Status 1 4 with
      | false=>
       have:lP s d=false:=Bool.eq_false_iff.2 fun h=>by rw[abV h] at h5;cases h5
       rw[this]
       simp
      | true=>
       simp only[Bool.not_true,cond_false,gv,eh,gh,aaQ s d h5]
       rw[show (bif decide ((k:Int)>0) then (aP s.Duties (az ((k:Int) - 1))).bind (fun e11=>(some (.inr (bif decide (e11.Since>d.Since) then true else !lP s d)):Option (Bool⊕Bool))) else some (.inr (!lP s d)))=some (.inr (bif pE s.Duties k d then true else !lP s d)) from hp (fun b=>some (.inr (bif b then true else !lP s d))) _ (fun p=>rfl)]
       rw[eh]
       rw[show tW c d.Clause=wd c e.Id by unfold tW;rw[hg],V2 c _ e hg hc,V1 s _ hl]
       have hcn:∀n:Nat,((n:Int)==1)=(n==1):=fun n=>by
        by_cases h:n=1
        ·subst h;rfl
        ·rw[beq_eq_false_iff_ne.2 h,beq_eq_false_iff_ne.2 (by omega)]
       simp only[Option.bind_some,hcn]
       generalize (List.countP (fun d_1=>d_1.Clause==d.Clause) s.Duties==1)=z
       cases pE s.Duties k d<;>cases lP s d<;>cases wd c e.Id<;>cases z<;>rfl
def qL (D:List Duty)(k:Nat)(i:Int):Bool:=(D.take k).any fun o=>o.Clause==i
theorem Sz (c:Contract)(s:State)(k:Nat)(hk:k<s.Duties.length)(hl:s.Duties.length≤1048576)(hc:c.Clauses.length≤1048576) :
  JX c s (k:Int)=some (wW c s k s.Duties[k]&&(tW c s.Duties[k].Clause || !qL s.Duties k s.Duties[k].Clause)):=by
 have he:=List.getElem?_eq_getElem hk
 unfold JX
 rw[ct,he,Option.bind_some]
 have hp:∀(f:Bool→Option (Bool⊕Bool)) (g:Duty→Option (Bool⊕Bool)) ,(∀p,g p=f (decide (p.Since>s.Duties[k].Since)))→(bif decide ((k:Int)>0) then ((aP s.Duties (az ((k:Int) - 1))).bind g) else f false)=f (pE s.Duties k s.Duties[k]):=by
  intro f g hg
  cases k with
  | zero=>rfl
  | succ j=>
   have hj:j<s.Duties.length:=by omega
   rw[decide_eq_true (by omega),cond_true,show az (((j+1:Nat):Int) - 1)=(j:Int) by rw[jN (by omega) (by omega)];omega,ct,List.getElem?_eq_getElem hj,Option.bind_some,hg]
   simp only[pE,List.getElem?_eq_getElem hj]
 generalize s.Duties[k]=d at *
 rw[jW,Option.bind_some,SD _ _ hc]
 unfold wW
 cases hg:aP c.Clauses d.Clause with
 | none=>rfl
 | some e=>
  rw[Option.isSome_some]
  simp only[Bool.not_true,cond_false,Option.bind_some,jW,nD]
  unfold clB
  cases h1:e.Kind==1 with
  | false=>rw[bne,h1];rfl
  | true=>
   rw[bne,h1]
   cases h2:ek d.Since 0 s.Day with
   | false=>rfl
   | true=>
    cases h3:d.Due==az (d.Since+e.Within) with
    | false=>rw[bne,h3];rfl
    | true=>
     rw[bne,h3]
     cases h4:ek d.Due 0 36524 with
     | false=>rfl
     | true=>
      simp only[Bool.not_true,cond_false,gv,eh]
      rw[show (bif decide ((k:Int)>0) then (aP s.Duties (az ((k:Int) - 1))).bind (fun e17=>(some (.inr (decide (d.Since<e17.Since))):Option (Bool⊕Bool))) else some (.inr false))=some (.inr (pE s.Duties k d)) from hp (fun b=>some (.inr b)) _ (fun p=>rfl)]
      simp only[gv,eh]
      cases pE s.Duties k d with
      | true=>rfl
      | false=>
       rw[cond_false,VG c _ e hg hc,Option.bind_some,Bu (by omega),Option.bind_some]
       unfold FV F2
       rw[E6 (iY (L:=sb (s.Duties.take k) d) (a:=s.Duties.take k) (p:=fun x=>Mw x d) (q:=fun o=>o.Clause==d.Clause) (fun x _=>rfl) (fun x=>by rw[Ns,mi]) (by rw[List.length_take];omega))]
       rw[show tW c d.Clause=wd c e.Id by unfold tW;rw[hg]]
       unfold qL lP
       cases wd c e.Id<;>cases ((s.Duties.take k).any fun o=>o.Clause==d.Clause)<;>cases (d.Status==1)<;>cases (d.Status==2)<;>cases (d.Status==3)<;>cases (d.Status==4)<;>cases s.Over<;>cases decide (d.Due≥s.Day)<;>cases decide (d.Due<s.Day)<;>rfl
def pI (c:Contract)(s:State)(k:Nat):Bool:=match s.Duties[k]? with
 | some d=>wW c s k d&&(tW c d.Clause||s.Duties.countP (fun o=>o.Clause==d.Clause)==1)
 | none=>true
def pr (c:Contract)(s:State)(k:Nat):Bool:=match s.Duties[k]? with
 | some d=>wW c s k d&&(tW c d.Clause || !qL s.Duties k d.Clause)
 | none=>true
theorem He (D:List Duty)(k:Nat)(hk:k<D.length)(p:Duty→Bool):D.countP p=(D.take k).countP p+((if p D[k]=true then 1 else 0)+(D.drop (k+1)).countP p):=by
 conv=>lhs;rw[←List.take_append_drop k D,List.drop_eq_getElem_cons hk]
 rw[List.countP_append,List.countP_cons]
 omega
theorem Sm (c:Contract)(s:State):((List.range s.Duties.length).any fun k=>!pI c s k)=((List.range s.Duties.length).any fun k=>!pr c s k):=by
 have key:(∀k,k<s.Duties.length→pI c s k=true)↔(∀k,k<s.Duties.length→pr c s k=true):=by
  constructor
  ·intro h k hk
   have h1:=h k hk
   unfold pI at h1
   unfold pr
   rw[List.getElem?_eq_getElem hk] at h1 ⊢
   simp only[Bool.and_eq_true,Bool.or_eq_true,beq_iff_eq] at h1 ⊢
   refine⟨h1.1,h1.2.imp id fun h2=>?_⟩
   have h3:=He s.Duties k hk (fun o=>o.Clause==s.Duties[k].Clause)
   rw[if_pos (by simp),h2] at h3
   have h4:(s.Duties.take k).countP (fun o=>o.Clause==s.Duties[k].Clause)=0:=by omega
   rw[List.countP_eq_zero] at h4
   rw[Bool.not_eq_true',qL,List.any_eq_false]
   exact h4
  ·intro h k hk
   have h1:=h k hk
   unfold pr at h1
   unfold pI
   rw[List.getElem?_eq_getElem hk] at h1 ⊢
   simp only[Bool.and_eq_true,Bool.or_eq_true,beq_iff_eq] at h1 ⊢
   refine⟨h1.1,?_⟩
   cases hd:tW c s.Duties[k].Clause with
   | true=>exact .inl rfl
   | false=>
    refine .inr ?_
    have h2:qL s.Duties k s.Duties[k].Clause=false:=by
     rcases h1.2 with h2 | h2
     ·rw[hd] at h2;cases h2
     ·simpa using h2
    rw[He s.Duties k hk (fun o=>o.Clause==s.Duties[k].Clause),if_pos (by simp)]
    have e1:(s.Duties.take k).countP (fun o=>o.Clause==s.Duties[k].Clause)=0:=by
     rw[List.countP_eq_zero]
     rw[qL,List.any_eq_false] at h2
     exact h2
    have e2:(s.Duties.drop (k+1)).countP (fun o=>o.Clause==s.Duties[k].Clause)=0:=by
     rw[List.countP_eq_zero]
     intro x hx hq
     obtain⟨j,hj,rfl⟩:=List.mem_iff_getElem.1 hx
     rw[List.length_drop] at hj
     rw[List.getElem_drop] at hq
     have h5:=h (k+1+j) (by omega)
     unfold pr at h5
     rw[List.getElem?_eq_getElem (by omega)] at h5
     simp only[Bool.and_eq_true,Bool.or_eq_true] at h5
     rw[beq_iff_eq] at hq
     rw[hq,hd] at h5
     have h6:qL s.Duties (k+1+j) s.Duties[k].Clause=true:=by
      rw[qL,List.any_eq_true]
      refine⟨s.Duties[k],?_,by simp⟩
      rw[List.mem_iff_getElem]
      exact⟨k,by rw[List.length_take];omega,by rw[List.getElem_take]⟩
     rw[h6] at h5
     simp at h5
    omega
 rw[Bool.eq_iff_iff,List.any_eq_true,List.any_eq_true]
 have k2:=not_congr key
 simp only[Classical.not_forall] at k2
 simp only[List.mem_range,Bool.not_eq_true']
 constructor
 ·rintro⟨k,hk,hq⟩
  obtain⟨j,hj,hq2⟩:=k2.1 ⟨k,hk,by simp[hq]⟩
  exact⟨j,hj,by simpa using hq2⟩
 ·rintro⟨k,hk,hq⟩
  obtain⟨j,hj,hq2⟩:=k2.2 ⟨k,hk,by simp[hq]⟩
  exact⟨j,hj,by simpa using hq2⟩
def tQ (x:Int):Bool:=ek x (-1000000000) 1000000000
theorem aaS (l:List Int)(hl:l.length≤1048576):∃v,tC l=some v∧uV l=some v:=by
 have h:∃v,jP l (0,0)=some (.inr v):=by
  obtain⟨y,⟨v,rfl⟩,h⟩:=nj (L:=fun k (n:Int)=>jP l (n,(k:Int))) l.length (fun k n=>True) (fun y=>∃v,y=.inr v) (s:=0)
   (by
    intro k n hk _
    refine .inl ⟨az (n+l[k]),trivial,?_⟩
    show jP l (_,(k:Int))=jP l (_,((k+1:Nat):Int))
    rw[Dx,kq]
    simp only[cg,decide_eq_true hk,cond_true,ct,List.getElem?_eq_getElem hk,Option.bind_some]
    rw[show az ((k:Int)+1)=((k+1:Nat):Int) from dD (by omega)])
   (by
    intro n _
    refine⟨.inr n,⟨n,rfl⟩,?_⟩
    show jP l (_,(l.length:Int))=_
    rw[Dx,kq]
    simp only[cg,decide_eq_false (Nat.lt_irrefl _),cond_false]) trivial
  exact⟨v,h⟩
 obtain⟨v,h⟩:=h
 refine⟨v,?_,?_⟩
 ·unfold tC;rw[h];rfl
 ·unfold uV;rw[show FR l (0,0)=jP l (0,0) from rfl,h];rfl
structure StF (c:Contract) (s:State) (names:List aa):Prop where
 day:ek s.Day 0 36524=true
 facts:ni s.Facts=true
 sub:s.Facts.all (fun f=>names.contains f)=true
 dl:s.Duties.length≤24
 bl:s.Balances.length=c.Parties.length
 dut:∀k,k<s.Duties.length→pI c s k=true
 amt:s.Balances.all tQ=true
 sum:tC s.Balances=some 0
noncomputable def wE (c:Contract)(s:State)(names:List aa)(v:Int):Bool:=
 ek s.Day 0 36524&&(ni s.Facts&&(decide (s.Duties.length≤24)&&((s.Balances.length==c.Parties.length)&&(s.Facts.all (fun f=>names.contains f)&&(!((List.range s.Duties.length).any fun k=>!pI c s k)&&(s.Balances.all tQ&&v==0))))))
theorem Oz (c:Contract)(s:State)(hc:eL c)(hs:iI s)(hb:io c=true){names:List aa}(hn:nR c=some names)(hnl:names.length≤1048576){v:Int}(hv:tC s.Balances=some v):tI c s=some (wE c s names v):=by
 have hdl:s.Duties.length≤1048576:=hs.2.2.1.1
 have hbl:s.Balances.length≤1048576:=hs.2.2.2.1.1
 have hfl:s.Facts.length≤1048576:=hs.2.1.1
 have hcl:c.Clauses.length≤1048576:=hc.2.1
 unfold tI wE
 rw[uO c hc,Option.bind_some,hb]
 simp only[Bool.not_true,cond_false]
 rw[show pW s.Day=some (ek s.Day 0 36524) by unfold pW;rw[ln];rfl,Option.bind_some]
 cases ek s.Day 0 36524 with
 | false=>rfl
 | true=>
  simp only[Bool.not_true,cond_false]
  rw[Ov _ hs.2.1,Option.bind_some]
  cases ni s.Facts with
  | false=>rfl
  | true=>
   simp only[Bool.not_true,cond_false,gh]
   have h24:decide (len s.Duties>24)=!decide (s.Duties.length≤24):=by
    by_cases h:s.Duties.length≤24
    ·rw[decide_eq_true h,decide_eq_false (by unfold len;omega)];rfl
    ·rw[decide_eq_false h,decide_eq_true (by unfold len;omega)];rfl
   rw[h24]
   cases decide (s.Duties.length≤24) with
   | false=>rfl
   | true=>
    have hbe:(len s.Balances != len c.Parties)=!(s.Balances.length==c.Parties.length):=by
     unfold len
     by_cases h:s.Balances.length=c.Parties.length
     ·rw[h,bne,beq_self_eq_true,beq_self_eq_true]
     ·rw[bne,beq_eq_false_iff_ne.2 h,beq_eq_false_iff_ne.2 (by omega)]
    simp only[Bool.not_true,cond_false]
    rw[hbe]
    cases s.Balances.length==c.Parties.length with
    | false=>rfl
    | true=>
     simp only[Bool.not_true,cond_false,gv,eh]
     rw[hn,Option.bind_some]
     rw[Gy (L:=sD c s names) (a:=s.Facts) (f:=fun e=>pa names e) (p:=fun f=>names.contains f) (fun x _=>MJ names x hnl) (fun x=>by rw[Nz,mu]) (by omega)]
     cases s.Facts.all (fun f=>names.contains f) with
     | false=>rfl
     | true=>
      rw[if_pos rfl,eh]
      have h:=oX (L:=fun k=>mw c s (k:Int)) (n:=s.Duties.length) (q:=fun k=>!pI c s k) (fun k hk=>by
       show mw c s (k:Int)=_
       rw[Er,kB,cg,decide_eq_true hk,cond_true,S5 c s k hk hdl hcl,Option.bind_some,dD (by omega)]
       unfold pI
       rw[List.getElem?_eq_getElem hk]) (by
       show mw c s (s.Duties.length:Int)=_
       rw[Er,kB,cg,decide_eq_false (Nat.lt_irrefl _),cond_false])
      rw[show mw c s 0=_ from h]
      cases (List.range s.Duties.length).any fun k=>!pI c s k with
      | true=>rfl
      | false=>
       rw[if_neg Bool.false_ne_true,eh]
       rw[Gy (L:=sE c s) (a:=s.Balances) (f:=Ak) (p:=tQ) (fun x _=>by unfold Ak;rw[ln];rfl) (fun x=>by rw[NA,my]) (by omega)]
       cases s.Balances.all tQ with
       | false=>rfl
       | true=>
        rw[if_pos rfl,eh,hv]
        rfl
theorem Oc (c:Contract)(s:State)(hc:eL c)(hs:iI s){names:List aa}(hn:sJ c=some names)(hnl:names.length≤1048576){v:Int}(hv:uV s.Balances=some v):JZ c s=some (wE c s names v):=by
 have hdl:s.Duties.length≤1048576:=hs.2.2.1.1
 have hbl:s.Balances.length≤1048576:=hs.2.2.2.1.1
 have hfl:s.Facts.length≤1048576:=hs.2.1.1
 have hcl:c.Clauses.length≤1048576:=hc.2.1
 unfold JZ wE
 rw[hn,Option.bind_some]
 rw[show nD s.Day=some (ek s.Day 0 36524) by unfold nD;rw[jW];rfl,Option.bind_some]
 cases ek s.Day 0 36524 with
 | false=>rfl
 | true=>
  simp only[Bool.not_true,cond_false]
  rw[N9 _ hs.2.1,Option.bind_some]
  cases ni s.Facts with
  | false=>rfl
  | true=>
   simp only[Bool.not_true,cond_false]
   unfold FX F4
   rw[E6 (iY (L:=se s.Facts names) (a:=s.Facts) (p:=fun x=>J0 x names) (q:=fun f=>!names.contains f) (fun x _=>by rw[J0,wb names x hnl];rfl) (fun x=>by rw[Nu,ml]) (by omega))]
   have ha:(s.Facts.any fun f=>!names.contains f)=!(s.Facts.all fun f=>names.contains f):=by rw[List.not_all_eq_any_not]
   rw[ha,Option.bind_some]
   have h24:decide (len s.Duties>24)=!decide (s.Duties.length≤24):=by
    by_cases h:s.Duties.length≤24
    ·rw[decide_eq_true h,decide_eq_false (by unfold len;omega)];rfl
    ·rw[decide_eq_false h,decide_eq_true (by unfold len;omega)];rfl
   have hbe:(len s.Balances != len c.Parties)=!(s.Balances.length==c.Parties.length):=by
    unfold len
    by_cases h:s.Balances.length=c.Parties.length
    ·rw[h,bne,beq_self_eq_true,beq_self_eq_true]
    ·rw[bne,beq_eq_false_iff_ne.2 h,beq_eq_false_iff_ne.2 (by omega)]
   rw[h24,hbe]
   cases s.Facts.all (fun f=>names.contains f) with
   | false=>cases decide (s.Duties.length≤24)<;>cases s.Balances.length==c.Parties.length<;>rfl
   | true=>
    simp only[Bool.not_true,gv,eh,cond_false]
    cases decide (s.Duties.length≤24) with
    | false=>rfl
    | true=>
     cases s.Balances.length==c.Parties.length with
     | false=>rfl
     | true=>
      simp only[Bool.not_true,cond_false,gv,eh,hv,Option.bind_some]
      have h:=oX (L:=fun k=>oO c s (k:Int)) (n:=s.Duties.length) (q:=fun k=>!pr c s k) (fun k hk=>by
       show oO c s (k:Int)=_
       rw[G9,lV,cg,decide_eq_true hk,cond_true,Sz c s k hk hdl hcl,Option.bind_some,dD (by omega)]
       unfold pr
       rw[List.getElem?_eq_getElem hk]) (by
       show oO c s (s.Duties.length:Int)=_
       rw[G9,lV,cg,decide_eq_false (Nat.lt_irrefl _),cond_false])
      rw[show oO c s 0=_ from h,Sm]
      unfold FW F3
      rw[E6 (iY (L:=sd s.Balances ()) (a:=s.Balances) (p:=fun x=>J1 x) (q:=fun b=>!tQ b) (fun x _=>by rw[J1,Mv,jW];rfl) (fun x=>by rw[Nt,mj]) (by omega))]
      have hb2:(s.Balances.any fun b=>!tQ b)=!(s.Balances.all tQ):=by rw[List.not_all_eq_any_not]
      rw[hb2]
      cases hv0:v==0 with
      | false=>
       rw[bne,hv0]
       cases (List.range s.Duties.length).any fun k=>!pr c s k<;>cases s.Balances.all tQ<;>rfl
      | true=>
       rw[bne,hv0]
       cases (List.range s.Duties.length).any fun k=>!pr c s k<;>cases s.Balances.all tQ<;>rfl
theorem aaR (c:Contract)(s:State)(hc:eL c)(hs:iI s):∃b,tI c s=some b∧GY c s=some b∧(b=true→io c=true∧∃names,nR c=some names∧sJ c=some names∧StF c s names):=by
 cases hb:io c with
 | false=>
  refine⟨false,?_,?_,by simp⟩
  ·unfold tI;rw[uO c hc,Option.bind_some,hb];rfl
  ·unfold GY;rw[uK c hc,Option.bind_some,hb];rfl
 | true=>
  obtain⟨f1,f2,f3,f4⟩:=wc hb
  obtain⟨names,n1,n2,n3,n4⟩:=Bj c hc f2 (qi.2 f4)
  obtain⟨v,v1,v2⟩:=aaS s.Balances hs.2.2.2.1.1
  have hnl:names.length≤1048576:=Nat.le_trans n4.2 (by decide)
  refine⟨_,Oz c s hc hs hb n1 hnl v1,?_,fun h=>⟨rfl,names,n1,n2,?_⟩⟩
  ·unfold GY
   rw[uK c hc,Option.bind_some,hb,cond_true,Oc c s hc hs n2 hnl v2]
   rfl
  ·unfold wE at h
   simp only[Bool.and_eq_true,decide_eq_true_eq,beq_iff_eq,Bool.not_eq_true'] at h
   obtain⟨g1,g2,g3,g4,g5,g6,g7,g8⟩:=h
   refine⟨g1,g2,g5,g3,g4,fun k hk=>?_,g7,by rw[v1,g8]⟩
   rw[List.any_eq_false] at g6
   have:=g6 k (List.mem_range.2 hk)
   simpa using this
theorem VB {c:Condition}(h:pq c=true):(c.Op=1∧c.Parts=[])∨(c.Op=2∧c.Parts=[])∨(c.Op=3∧c.Parts=[])∨(c.Op=4∧∃p,c.Parts=[p])∨(c.Op=5∧∃p q,c.Parts=[p,q])∨(c.Op=6∧∃p q,c.Parts=[p,q]):=by
 rw[ua,Bm,La] at h
 rw[Bool.and_eq_true,Bool.and_eq_true,decide_eq_true_iff,mH] at h
 obtain⟨⟨⟨h1,h2⟩,h3⟩,_⟩:=h
 have ho:c.Op=1∨c.Op=2∨c.Op=3∨c.Op=4∨c.Op=5∨c.Op=6:=by omega
 have two:∀{a:List Condition},a.length=2→∃p q,a=[p,q]:=fun {a} h=>by
  match a,h with
  | [p,q],_=>exact⟨p,q,rfl⟩
 have one:∀{a:List Condition},a.length=1→∃p,a=[p]:=fun {a} h=>by
  match a,h with
  | [p],_=>exact⟨p,rfl⟩
 rcases ho with h | h | h | h | h | h<;>simp only[h] at h3 ⊢
 ·exact .inl ⟨trivial,List.length_eq_zero_iff.1 (by simpa using h3)⟩
 ·exact .inr (.inl ⟨trivial,List.length_eq_zero_iff.1 (by simpa using h3)⟩)
 ·exact .inr (.inr (.inl ⟨trivial,List.length_eq_zero_iff.1 (by simpa using h3)⟩))
 ·exact .inr (.inr (.inr (.inl ⟨trivial,one (by simpa using h3)⟩)))
 ·exact .inr (.inr (.inr (.inr (.inl ⟨trivial,two (by simpa using h3)⟩))))
 ·exact .inr (.inr (.inr (.inr (.inr ⟨trivial,two (by simpa using h3)⟩))))
theorem Ki (a:List aa)(s:aa)(ha:a.length≤1048576):mP a s=some (a.contains s):=by
 unfold mP vr
 rw[iY (L:=nQ a s) (a:=a) (p:=fun e=>some (s==e)) (q:=fun e=>s==e) (fun _ _=>rfl) (fun x=>by rw[tB,jf]<;>rfl) (by omega)]
 cases h:a.findIdx? (fun e=>s==e) with
 | none=>
  have:a.contains s=false:=by
   rw[List.findIdx?_eq_none_iff] at h
   rw[Bool.eq_false_iff]
   intro hc
   rw[List.contains_iff_exists_mem_beq] at hc
   obtain⟨w,hw,he⟩:=hc
   rw[h w hw] at he
   cases he
  rw[this]
  rfl
 | some i=>
  have:a.contains s=true:=by
   rw[List.findIdx?_eq_some_iff_getElem] at h
   obtain⟨hi,he,_⟩:=h
   rw[List.contains_iff_exists_mem_beq]
   exact⟨_,List.getElem_mem hi,he⟩
  rw[this]
  simp
theorem XV (a:List aa)(s:aa)(ha:a.length≤1048576):pa a s=some (a.contains s):=by
 unfold pa
 rw[sP (L:=pO a s) (a:=a) (p:=fun e=>some (e==s)) (r:=true) (q:=fun e=>e==s) (fun x _=>rfl) (fun x=>by rw[DM,ks]<;>rfl) (by omega)]
 have:a.any (fun e=>e==s)=a.contains s:=by
  rw[List.contains_eq_any_beq]
  congr 1
  funext e
  exact Bool.beq_comm
 rw[this]
 cases a.contains s<;>rfl
theorem ML (c:Condition):ep c=true→∀(f:List aa) (d:Int),f.length≤1048576→∃b,F6 c f d=some b∧JR c f d=some b:=by
 refine fw (P:=fun c=>ep c=true→∀(f:List aa) (d:Int),f.length≤1048576→∃b,F6 c f d=some b∧JR c f d=some b) ?_ c
 intro c ih hf f d hl
 rw[qO,Bool.and_eq_true,List.all_eq_true] at hf
 obtain⟨hf,hp⟩:=hf
 rw[WZ,aap]
 unfold si wV
 have g0:∀{p:Condition} {l:List Condition},aP (p::l) 0=some p:=rfl
 have g1:∀{p q:Condition} {l:List Condition},aP (p::q::l) 1=some q:=rfl
 rcases VB hf with⟨o,e⟩ | ⟨o,e⟩ | ⟨o,e⟩ | ⟨o,p,e⟩ | ⟨o,p,q,e⟩ | ⟨o,p,q,e⟩
 ·exact⟨true,by rw[o];rfl,by rw[o];rfl⟩
 ·exact⟨f.contains c.Name,by rw[o,XV f _ hl];rfl,by rw[o,Ki f _ hl];rfl⟩
 ·exact⟨decide (d≥c.Day),by rw[o];rfl,by rw[o];rfl⟩
 ·rw[e] at ih hp
  obtain⟨b,h1,h2⟩:=ih p (by simp) (hp p (by simp)) f d hl
  refine⟨!b,?_,?_⟩
  ·rw[o,e]
   simp only[Int.reduceBEq,cond_false,cond_true]
   rw[g0,Option.bind_some,show aM kt (p,f,d)=_ from h1];rfl
  ·rw[o,e]
   simp only[Int.reduceBEq,cond_false,cond_true]
   rw[g0,Option.bind_some,show aM mU (p,f,d)=_ from h2];rfl
 ·rw[e] at ih hp
  obtain⟨b,h1,h2⟩:=ih p (by simp) (hp p (by simp)) f d hl
  obtain⟨b',h3,h4⟩:=ih q (by simp) (hp q (by simp)) f d hl
  refine⟨b&&b',?_,?_⟩
  ·rw[o,e]
   simp only[Int.reduceBEq,cond_false,cond_true]
   rw[g0,g1,Option.bind_some,show aM kt (p,f,d)=_ from h1,Option.bind_some]
   cases b with
   | false=>rfl
   | true=>rw[cond_true,Option.bind_some,show aM kt (q,f,d)=_ from h3];rfl
  ·rw[o,e]
   simp only[Int.reduceBEq,cond_false,cond_true]
   rw[g0,g1,Option.bind_some,show aM mU (p,f,d)=_ from h2,Option.bind_some]
   cases b with
   | false=>rfl
   | true=>rw[cond_true,Option.bind_some,show aM mU (q,f,d)=_ from h4];rfl
 ·rw[e] at ih hp
  obtain⟨b,h1,h2⟩:=ih p (by simp) (hp p (by simp)) f d hl
  obtain⟨b',h3,h4⟩:=ih q (by simp) (hp q (by simp)) f d hl
  refine⟨b||b',?_,?_⟩
  ·rw[o,e]
   simp only[Int.reduceBEq,cond_false,cond_true]
   rw[g0,g1,Option.bind_some,show aM kt (p,f,d)=_ from h1,Option.bind_some]
   cases b with
   | true=>rfl
   | false=>rw[cond_false,Option.bind_some,show aM kt (q,f,d)=_ from h3];rfl
  ·rw[o,e]
   simp only[Int.reduceBEq,cond_false,cond_true]
   rw[g0,g1,Option.bind_some,show aM mU (p,f,d)=_ from h2,Option.bind_some]
   cases b with
   | true=>rfl
   | false=>rw[cond_false,Option.bind_some,show aM mU (q,f,d)=_ from h4];rfl
noncomputable def qQ (c:Condition)(f:List aa)(d:Int):Bool:=(JR c f d).getD false
theorem S7 {c:Condition}(h:ep c=true){f:List aa}{d:Int}(hl:f.length≤1048576):F6 c f d=some (qQ c f d):=by
 obtain⟨b,h1,h2⟩:=ML c h f d hl
 unfold qQ
 rw[h1,h2];rfl
theorem SA {c:Condition}(h:ep c=true){f:List aa}{d:Int}(hl:f.length≤1048576):JR c f d=some (qQ c f d):=by
 obtain⟨b,h1,h2⟩:=ML c h f d hl
 unfold qQ
 rw[h2];rfl
theorem Sk (a:List aa)(ha:a.length≤1048576):zR a=some a:=by
 unfold zR wq ix
 rw[if_pos (by simp only[List.length_nil,ke];omega)]
 cases a<;>simp[wX]
theorem NT (a:List Duty)(ha:a.length≤1048576):zN a=some a:=by
 unfold zN wq ix
 rw[if_pos (by simp only[List.length_nil,ke];omega)]
 cases a<;>simp[wX]
theorem Sj (a:List Int)(ha:a.length≤1048576):zP a=some a:=by
 unfold zP wq ix
 rw[if_pos (by simp only[List.length_nil,ke];omega)]
 cases a<;>simp[wX]
theorem ST (s:State)(hs:iI s):yP s=some s:=by
 unfold yP
 rw[Sk _ hs.2.1.1,NT _ hs.2.2.1.1,Sj _ hs.2.2.2.1.1]
 rfl
theorem X1 (c:Contract)(s:State)(hs:iI s){names:List aa}(hn:sJ c=some names):J2 c s=some ⟨c,s,names,[],false⟩:=by
 unfold J2
 rw[ST s hs,Option.bind_some,hn]
 rfl
theorem M7 {c:Contract}(h:io c=true){i:Int}{e:Clause}(he:aP c.Clauses i=some e):ep e.When=true:=by
 unfold aP at he
 split at he
 ·have h1:=v7 ((wc h).2.2.2 _ e he).2
  simp only[ot,Bool.and_eq_true] at h1
  exact h1.1
 ·cases he
noncomputable def Ks (s:State)(kind party:Int)(action:aa)(x:Clause):Bool:=(x.Kind==kind)&&((x.Party==party)&&((x.Action==action)&&qQ x.When s.Facts s.Day))
def aaM:Option Nat→Int
 | some i=>(i:Int)
 | none=>-1
noncomputable def N0 (c:Contract)(s:State)(kind party:Int)(action:aa):Int:=aaM (c.Clauses.findIdx? (Ks s kind party action))
theorem We {c:Contract}(h:io c=true){e:Clause}(he:e∈c.Clauses):ep e.When=true:=by
 obtain⟨i,hi,rfl⟩:=List.mem_iff_getElem.1 he
 exact M7 h (i:=(i:Int)) (by rw[ct,List.getElem?_eq_getElem hi])
theorem MM {o:Option Nat}{L:Int→Option (Int⊕Unit)}(h:L 0=some (match o with | some i=>.inl (i:Int) | none=>.inr ())):(bd (ρ:=Int) (L 0) fun _:Unit=>some (-1))=some (aaM o):=by
 rw[h]
 cases o<;>rfl
theorem Ow (c:Contract)(s:State)(bad:Bool)(kind party:Int)(action:aa)(h:io c=true)(hc:c.Clauses.length≤1048576)(hs:s.Facts.length≤1048576):AQ ⟨c,s,bad⟩ kind party action=some (N0 c s kind party action):=by
 unfold AQ N0
 refine MM (L:=sG ⟨c,s,bad⟩ kind party action) (iY (a:=c.Clauses) (p:=fun x=>some (Ks s kind party action x)) (fun _ _=>rfl) (fun x=>?_) (by omega))
 rw[NB,mz]
 cases he:aP c.Clauses x with
 | none=>rfl
 | some e=>
  simp only[Option.bind_some]
  have hh:AU ⟨c,s,bad⟩ x=some (qQ e.When s.Facts s.Day):=by
   unfold AU
   simp only[he,Option.bind_some]
   rw[S7 (M7 h he) hs]
   rfl
  rw[hh]
  unfold Ks
  cases e.Kind==kind<;>cases e.Party==party<;>cases e.Action==action<;>cases qQ e.When s.Facts s.Day<;>rfl
theorem Oa (c:Contract)(s:State)(names:List aa)(t:List Entry)(bad:Bool)(kind party:Int)(action:aa)(h:io c=true)(hc:c.Clauses.length≤1048576)(hs:s.Facts.length≤1048576):J4 ⟨c,s,names,t,bad⟩ kind party action=some (N0 c s kind party action):=by
 unfold J4 F0 N0
 rw[MM (iY (L:=sa c.Clauses (kind,party,action,⟨c,s,names,t,bad⟩)) (a:=c.Clauses) (p:=fun x=>yM x kind party action ⟨c,s,names,t,bad⟩) (q:=Ks s kind party action) (fun x hx=>?_) (fun x=>by rw[Nq,mh]) (by omega))]
 ·rfl
 ·unfold yM FQ
  rw[SA (We h hx) hs]
  unfold Ks
  cases x.Kind==kind<;>cases x.Party==party<;>cases x.Action==action<;>cases qQ x.When s.Facts s.Day<;>rfl
theorem Sc (c:Contract)(s:State)(party:Int)(action:aa)(hc:eL c)(hs:iI s)(ha:action.length≤1048576):∃b,AJ c s party action=some b∧JQ c s party action=some b∧(b=true→io c=true∧s.Over=false∧∃names,nR c=some names∧sJ c=some names∧StF c s names):=by
 obtain⟨b,g1,g2,g3⟩:=aaR c s hc hs
 unfold AJ JQ
 simp only[g1,g2,Option.bind_some,ln,jW,mM action ha,mG action ha]
 cases b with
 | false=>exact⟨false,rfl,rfl,by simp⟩
 | true=>
  obtain⟨h,names,n1,n2,f⟩:=g3 rfl
  cases ho:s.Over with
  | true=>exact⟨false,rfl,rfl,by simp⟩
  | false=>
   cases ek party 0 (az (len c.Parties - 1)) with
   | false=>exact⟨false,rfl,rfl,by simp⟩
   | true=>exact⟨fH action,rfl,rfl,fun _=>⟨h,rfl,names,n1,n2,f⟩⟩
theorem SX (c:Contract)(s:State)(party:Int)(action:aa)(hc:eL c)(hs:iI s)(ha:action.length≤1048576):∃r,Ai c s party action=some r∧JJ c s party action=some r:=by
 obtain⟨b,g1,g2,g3⟩:=Sc c s party action hc hs ha
 unfold Ai JJ
 rw[g1,g2,Option.bind_some,Option.bind_some]
 cases b with
 | false=>exact⟨_,rfl,rfl⟩
 | true=>
  obtain⟨h,_,names,n1,n2,f⟩:=g3 rfl
  simp only[Bool.not_true,cond_false,X1 c s hs n2,Option.bind_some]
  simp only[Ow c s _ _ _ _ h hc.2.1 hs.2.1.1,Oa c s _ _ _ _ _ _ h hc.2.1 hs.2.1.1,Option.bind_some]
  exact⟨_,rfl,rfl⟩
theorem uT (c:Contract)(hc:T5 c)(s:State)(hs:Bl s)(p:Int)(hp:mW p)(a:aa)(ha:wu a):fb c s p a=some true:=by
 unfold fb
 by_cases hal:a.length≤1048576
 ·rw[decide_eq_false (by unfold len;omega),cond_false]
  obtain⟨r1,e1,q1⟩:=Mh c hc (l:=1048576) (by decide) (by decide)
  rw[e1,Option.bind_some]
  rcases q1 with q1 | ⟨q1,p1,s1⟩
  ·rw[decide_eq_true q1,cond_true]
  rw[decide_eq_false (by omega),cond_false]
  obtain⟨r2,e2,q2⟩:=V6 s hs (l:=r1) (by omega) (by omega)
  rw[e2,Option.bind_some]
  rcases q2 with q2 | ⟨q2,p2,s2⟩
  ·rw[decide_eq_true q2,cond_true]
  rw[decide_eq_false (by omega),cond_false]
  obtain⟨r,g1,g2⟩:=SX c s p a s1 s2 hal
  simp only[Mi c s1,V8 s s2,Option.bind_some,g1,g2,L5 c s1,Vw s s2,beq_self_eq_true,bne_self_eq_false,Bool.not_true,gh,cond_false]
 ·rw[decide_eq_true (by unfold len;omega),cond_true]
end Go.Ln
