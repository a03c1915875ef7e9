/-
  The plain law.
-/
import Derived.Test.YtcfddlacocdpoaaGreatDoorFnExactOverdueByLib
import Derived.Sort.AssemblyPlain
import Derived.Sort.LotD4
import Derived.Sort.LotD5
set_option linter.unusedVariables false
set_option linter.unusedSimpArgs false
set_option maxRecDepth 100000
namespace Go.Ln
open Go
theorem sD {α:Type}{b:Nat}{xs:List α}{y:α}(h:(xs.length+1)*b≤1099511627776)(h2:xs.length+1≤1099511627776):iX b xs [y]=some (xs++[y]):=by
 unfold iX
 rw[if_pos]
 simp only[List.length_cons,List.length_nil,nq,Nat.zero_add]
 omega
namespace StrL
theorem lt_irrefl:∀(a:ae),Op.bytesLess a a=false
 | []=>rfl
 | x::xs=>by
  have h:¬x<x:=by simp
  simp[Op.bytesLess,h,lt_irrefl xs]
theorem lt_trans:∀(a b c:ae),Op.bytesLess a b=true→Op.bytesLess b c=true→Op.bytesLess a c=true
 | _,[],_,h,_=>by simp[Op.bytesLess] at h
 | _,_::_,[],_,h=>by simp[Op.bytesLess] at h
 | [],_::_,_::_,_,_=>rfl
 | x::xs,y::ys,z::zs,h1,h2=>by
  simp only[Op.bytesLess,Bool.or_eq_true,decide_eq_true_eq,Bool.and_eq_true,beq_iff_eq] at h1 h2 ⊢
  rcases h1 with h1 | ⟨h1,h3⟩<;>rcases h2 with h2 | ⟨h2,h4⟩
  ·exact .inl (UInt8.lt_trans h1 h2)
  ·subst h2;exact .inl h1
  ·subst h1;exact .inl h2
  ·subst h1;subst h2;exact .inr ⟨rfl,lt_trans xs ys zs h3 h4⟩
def Lt (a b:ae):Prop:=Op.bytesLess a b=true
theorem tri (a b:ae):Lt a b∨a=b∨Lt b a:=by
 have:=Oj a b
 unfold Lt
 cases h:Op.bytesLess a b
 ·cases h2:a==b
  ·rw[h,h2] at this;exact .inr (.inr this.symm)
  ·exact .inr (.inl (by simpa using h2))
 ·exact .inl rfl
theorem Lt.irrefl {a:ae}(h:Lt a a):False:=by unfold Lt at h;rw[lt_irrefl] at h;cases h
theorem Lt.trans {a b c:ae}(h:Lt a b)(h2:Lt b c):Lt a c:=lt_trans a b c h h2
theorem Lt.asymm {a b:ae}(h:Lt a b)(h2:Lt b a):False:=(h.trans h2).irrefl
def Le (a b:ae):Prop:=¬Lt b a
theorem Le.lt_or {a b:ae}(h:Le a b):Lt a b∨a=b:=by
 rcases tri a b with h1 | h1 | h1
 ·exact .inl h1
 ·exact .inr h1
 ·exact (h h1).elim
theorem Le.trans {a b c:ae}(h:Le a b)(h2:Le b c):Le a c:=by
 intro h3
 rcases h.lt_or with h4 | rfl
 ·rcases h2.lt_or with h5 | rfl
  ·exact (h4.trans h5).asymm h3
  ·exact h h3
 ·exact h2 h3
theorem Lt.le {a b:ae}(h:Lt a b):Le a b:=fun h2=>h.asymm h2
theorem Lt.ne {a b:ae}(h:Lt a b):a≠b:=fun e=>by subst e;exact h.irrefl
theorem Le.le_lt {a b c:ae}(h:Le a b)(h2:Lt b c):Lt a c:=by
 rcases h.lt_or with h3 | rfl
 ·exact h3.trans h2
 ·exact h2
end StrL
namespace StrL
def hY (a:List ae)(j:Nat):Bool:=match j with
 | 0=>true
 | j+1=>match a[j]?,a[j+1]? with
  | some x,some y=>y != x
  | _,_=>true
def dd (a:List ae):List ae:=mr (hY a) a a.length
theorem JO {a:List ae}{k:Nat}(h:∀j x y,j+1<k→a[j]?=some x→a[j+1]?=some y→y≠x)(hn:k≤a.length):mr (hY a) a k=a.take k:=by
 have e:∀n,n≤k→mr (hY a) a n=a.take n:=by
  intro n
  induction n with
  | zero=>intro _;rfl
  | succ n ih=>
   intro hk
   have h1:n<a.length:=by omega
   have hx:=List.getElem?_eq_getElem h1
   rw[D2 ?_ hx,ih (by omega),List.take_add_one,hx]
   ·rfl
   ·cases n with
    | zero=>rfl
    | succ n=>
     have h2:=List.getElem?_eq_getElem (show n<a.length by omega)
     simp only[hY,h2,hx]
     simpa using h n _ _ (by omega) h2 hx
 exact e k (Nat.le_refl k)
theorem QN {s z:List ae}{x j:Nat}(h1:x≤j)(h2:j<s.length):wK z (0+Int.toNat (x:Int)) (Int.toNat (len s) - Int.toNat (x:Int)) ((j:Int) - (x:Int))=z[j]?:=by
 unfold wK
 simp only[len,Int.toNat_natCast,Nat.zero_add]
 rw[if_pos (by omega),show x+((j:Int) - (x:Int)).toNat=j by omega]
theorem NV (s:List ae)(x:Nat)(hl:s.length≤1048576)(hx:x<s.length)(h0:mr (hY s) s (x+1)=s.take x):∃(i:Nat) (z:List ae),li s (x:Int) ((x:Int),1,s)=some (.inr ((i:Int),z))∧z.length=s.length∧i≤z.length∧z.take i=dd s:=by
 have hD:=acl (L:=fun q:Int×Int×List ae=>li s (x:Int) (q.1,q.2.1 - (x:Int),q.2.2)) (keep:=hY s) (a:=s) (i0:=x)
  (by
   intro i j z y hz hi hij hy hy2 hy3
   obtain⟨h1,_⟩:=List.getElem?_eq_some_iff.1 hy
   have h2:=List.getElem?_eq_getElem (show j - 1<s.length by omega)
   have h4:=List.getElem?_eq_getElem (show i<z.length by omega)
   show li s (x:Int) ((i:Int),(j:Int) - (x:Int),z)=bif hY s j then li s (x:Int) (((i+1:Nat):Int),((j+1:Nat):Int) - (x:Int),z.set i y) else li s (x:Int) ((i:Int),((j+1:Nat):Int) - (x:Int),z)
   have w1:ac ((j:Int) - (x:Int) - 1)=((j - 1:Nat):Int) - (x:Int):=by rw[dW (by omega) (by omega)];omega
   have w2:ac ((j:Int) - (x:Int)+1)=((j+1:Nat):Int) - (x:Int):=by rw[dW (by omega) (by omega)];omega
   have c1:decide ((j:Int) - (x:Int)<(((Int.toNat (len s) - Int.toNat (x:Int)):Nat):Int))=true:=decide_eq_true (by simp only[len,Int.toNat_natCast];omega)
   rw[FQ,lX]
   simp only[c1,cond_true,w1,w2,QN (show x≤j by omega) h1,QN (show x≤j - 1 by omega) (show j - 1<s.length by omega),hy2,hy3,h2,Option.bind_some,bX,mB,h4,cV (show i<9223372036854775807 by omega)]
   have hk:hY s j=(y != s[j - 1]):=by
    cases j with
    | zero=>omega
    | succ j=>
     simp only[hY,hy,show j+1 - 1=j by omega] at h2 ⊢
     simp only[h2]
   rw[hk]
   show _=bif !(y==s[j - 1]) then _ else _
   cases y==s[j - 1]<;>rfl)
  (by
   intro i j z hz hi hij hj
   show li s (x:Int) ((i:Int),(j:Int) - (x:Int),z)=_
   have c1:decide ((j:Int) - (x:Int)<(((Int.toNat (len s) - Int.toNat (x:Int)):Nat):Int))=false:=decide_eq_false (by simp only[len,Int.toNat_natCast];omega)
   rw[FQ,lX]
   simp only[c1,cond_false])
  h0 hx
 simp only[show ((x+1:Nat):Int) - (x:Int)=1 by omega] at hD
 exact hD
theorem yT (s:List ae)(hl:s.length≤1048576):∀(n k:Nat),k+n=s.length→1≤k→(∀j x y,j+1<k→s[j]?=some x→s[j+1]?=some y→y≠x)→∃y,rT s (k:Int)=some y∧(y=.inl (dd s)∨y=.inr (dd s))
 | 0,k,hk,h1,h=>by
  refine⟨.inr s,?_,.inr ?_⟩
  ·rw[FP,lW,bQ,decide_eq_false (by omega),cond_false]
  ·unfold dd
   rw[JO (k:=s.length) (fun j x y hj=>h j x y (by omega)) (Nat.le_refl _),List.take_length]
 | n+1,k,hk,h1,h=>by
  have h2:k<s.length:=by omega
  have e1:=List.getElem?_eq_getElem h2
  have e2:=List.getElem?_eq_getElem (show k - 1<s.length by omega)
  have w1:ac ((k:Int) - 1)=((k - 1:Nat):Int):=by rw[dW (by omega) (by omega)];omega
  rw[FP,lW,bQ,decide_eq_true h2,cond_true,w1,bX,bX,e1,e2,Option.bind_some,Option.bind_some,cV (by omega)]
  by_cases hq:s[k]=s[k - 1]
  ·rw[beq_iff_eq.2 hq,cond_true]
   have e3:jS s.length (k:Int) (len s)=some ():=by unfold jS;rw[if_pos (by simp only[len];omega)]
   have hno:hY s k=false:=by
    cases k with
    | zero=>omega
    | succ k=>
     simp only[show k+1 - 1=k by omega] at e2 hq
     simp only[hY,e1,e2,hq,bne_self_eq_false]
   obtain⟨i,z,e,hz,hi,ht⟩:=NV s k hl h2 (by rw[JV hno,JO h (by omega)])
   rw[e3,Option.bind_some,e,eL]
   refine⟨.inl (dd s),?_,.inl rfl⟩
   rw[←ht]
   exact agJ (c:=([]:ae)) (F:=fun p19=>some (Sum.inl p19)) hi
  ·rw[beq_eq_false_iff_ne.2 hq,cond_false]
   refine yT s hl n (k+1) (by omega) (by omega) fun j x y hj hx hy=>?_
   by_cases hj2:j+1<k
   ·exact h j x y hj2 hx hy
   ·obtain rfl:k=j+1:=by omega
    simp only[show j+1 - 1=j by omega] at e2 hq
    rw[e2] at hx
    rw[e1] at hy
    cases hx
    cases hy
    exact hq
theorem compact_val (s:List ae)(hl:s.length≤1048576):CX s=some (dd s):=by
 unfold CX
 by_cases h:len s<2
 ·rw[decide_eq_true h,cond_true]
  have h':s.length<2:=by simp only[len] at h;omega
  unfold dd
  rw[JO (k:=s.length) (fun j x y hj=>by omega) (Nat.le_refl _),List.take_length]
 ·rw[decide_eq_false h,cond_false]
  have h':¬s.length<2:=by simp only[len] at h;omega
  obtain⟨y,hy,hq⟩:=yT s hl (s.length - 1) 1 (by omega) (Nat.le_refl _) (fun j x y hj=>by omega)
  rw[show rT s 1=some y from hy]
  rcases hq with rfl | rfl<;>rfl
end StrL
namespace StrL
theorem KC {a:List ae}(hs:a.Pairwise Le):∀n,n≤a.length→(mr (hY a) a n).Pairwise Lt∧∀x,x∈mr (hY a) a n↔x∈a.take n
 | 0,_=>by
  have e:mr (hY a) a 0=[]:=rfl
  rw[e]
  exact⟨List.Pairwise.nil,fun x=>by simp⟩
 | n+1,hn=>by
  obtain⟨h1,h2⟩:=KC hs n (by omega)
  have hlt:n<a.length:=by omega
  have hx:=List.getElem?_eq_getElem hlt
  have hle:∀y∈a.take n,Le y a[n]:=by
   intro y hy
   obtain⟨i,hi,rfl⟩:=List.mem_iff_getElem.1 hy
   rw[List.length_take] at hi
   rw[List.getElem_take]
   exact List.pairwise_iff_getElem.1 hs i n (by omega) hlt (by omega)
  cases hk:hY a n with
  | true=>
   rw[D2 hk hx]
   have hstrict:∀y∈a.take n,Lt y a[n]:=by
    intro y hy
    cases n with
    | zero=>simp at hy
    | succ j=>
     have h3:=List.getElem?_eq_getElem (show j<a.length by omega)
     have hne:a[j+1]≠a[j]:=by
      simp only[hY,h3,hx] at hk
      simpa using hk
     have hj:Le a[j] a[j+1]:=List.pairwise_iff_getElem.1 hs j (j+1) (by omega) hlt (by omega)
     obtain⟨i,hi,rfl⟩:=List.mem_iff_getElem.1 hy
     rw[List.length_take] at hi
     rw[List.getElem_take]
     have hlt2:Lt a[j] a[j+1]:=hj.lt_or.resolve_right fun e=>hne e.symm
     by_cases e:i=j
     ·subst e;exact hlt2
     ·have:=List.pairwise_iff_getElem.1 hs i j (by omega) (by omega) (by omega)
      exact this.le_lt hlt2
   refine⟨List.pairwise_append.2 ⟨h1,List.pairwise_singleton _ _,fun y hy z hz=>?_⟩,fun x=>?_⟩
   ·rw[List.mem_singleton] at hz
    subst hz
    exact hstrict y ((h2 y).1 hy)
   ·rw[List.take_add_one,hx,List.mem_append,List.mem_append,h2]
    rfl
  | false=>
   rw[JV hk]
   refine⟨h1,fun x=>?_⟩
   rw[h2,List.take_add_one,hx,List.mem_append]
   constructor
   ·exact .inl
   ·rintro (h | h)
    ·exact h
    ·have e:x=a[n]:=by simpa using h
     subst e
     cases n with
     | zero=>simp[hY] at hk
     | succ j=>
      have h3:=List.getElem?_eq_getElem (show j<a.length by omega)
      simp only[hY,h3,hx] at hk
      have e:a[j+1]=a[j]:=by simpa using hk
      rw[e]
      have:a[j]∈a.take (j+1):=by
       rw[List.mem_iff_getElem]
       exact⟨j,by rw[List.length_take];omega,by rw[List.getElem_take]⟩
      exact this
theorem dd_ok {a:List ae}(hs:a.Pairwise Le):(dd a).Pairwise Lt∧∀x,x∈dd a↔x∈a:=by
 have:=KC hs a.length (Nat.le_refl _)
 rw[List.take_length] at this
 exact this
theorem asc_uniq:∀{a b:List ae},a.Pairwise Lt→b.Pairwise Lt→(∀x,x∈a↔x∈b)→a=b
 | [],[],_,_,_=>rfl
 | [],y::b,_,_,h=>absurd ((h y).2 (by simp)) (by simp)
 | x::a,[],_,_,h=>absurd ((h x).1 (by simp)) (by simp)
 | x::a,y::b,ha,hb,h=>by
  rw[List.pairwise_cons] at ha hb
  have e:x=y:=by
   have h1:=(h x).1 (by simp)
   have h2:=(h y).2 (by simp)
   rw[List.mem_cons] at h1 h2
   rcases h1 with h1 | h1
   ·exact h1
   ·rcases h2 with h2 | h2
    ·exact h2.symm
    ·exact ((ha.1 y h2).asymm (hb.1 x h1)).elim
  subst e
  rw[asc_uniq ha.2 hb.2 fun z=>?_]
  constructor
  ·intro hz
   have h1:=(h z).1 (List.mem_cons_of_mem _ hz)
   rcases List.mem_cons.1 h1 with e | h1
   ·subst e;exact (ha.1 z hz).irrefl.elim
   ·exact h1
  ·intro hz
   have h1:=(h z).2 (List.mem_cons_of_mem _ hz)
   rcases List.mem_cons.1 h1 with e | h1
   ·subst e;exact (hb.1 z hz).irrefl.elim
   ·exact h1
theorem NQ {b:Nat}{xs ys:List ae}(h:(xs.length+ys.length)*b≤1099511627776)(h2:xs.length+ys.length≤1099511627776):iX b xs ys=some (xs++ys):=by
 unfold iX
 rw[if_pos]
 simp only[nq]
 omega
theorem OC (l:List ae)(n:ae)(m:Nat)(hm:m≤l.length)(hl:l.length≤1048576)(h1:∀(j:Nat) x,j<m→l[j]?=some x→Lt x n)(h2:∀x,l[m]?=some x→¬Lt x n):∀(k j:Nat),j+k=m→vk l n (j:Int)=some (.inr (n,(m:Int),l))
 | 0,j,hj=>by
  obtain rfl:j=m:=by omega
  rw[Hb,l9,bQ]
  by_cases h:j<l.length
  ·rw[decide_eq_true h,cond_true,bX,List.getElem?_eq_getElem h,Option.bind_some,eL,show Op.bytesLess l[j] n=false from by simpa[Lt] using h2 _ (List.getElem?_eq_getElem h),cond_false]
  ·rw[decide_eq_false h,cond_false,eL,cond_false]
 | k+1,j,hj=>by
  have h:j<l.length:=by omega
  rw[Hb,l9,bQ,decide_eq_true h,cond_true,bX,List.getElem?_eq_getElem h,Option.bind_some,eL,show Op.bytesLess l[j] n=true from h1 j _ (by omega) (List.getElem?_eq_getElem h),cond_true,cV (by omega)]
  exact OC l n m hm hl h1 h2 k (j+1) (by omega)
theorem put_val (l:List ae)(n:ae)(hl:l.length≤1000000)(hs:l.Pairwise Lt):∃r,yw l n=some r∧r.Pairwise Lt∧(∀x,x∈r↔x∈l∨x=n)∧r.length≤l.length+1:=by
 have key:∃m,m≤l.length∧(∀(j:Nat) x,j<m→l[j]?=some x→Lt x n)∧(∀x,l[m]?=some x→¬Lt x n):=by
  clear hl
  induction l with
  | nil=>exact⟨0,by simp,fun j x hj=>by omega,fun x hx=>by simp at hx⟩
  | cons y l ih=>
   by_cases hy:Lt y n
   ·obtain⟨m,h1,h2,h3⟩:=ih (List.pairwise_cons.1 hs).2
    refine⟨m+1,by simp;omega,fun j x hj hx=>?_,fun x hx=>h3 x (by simpa using hx)⟩
    cases j with
    | zero=>simp at hx;subst hx;exact hy
    | succ j=>exact h2 j x (by omega) (by simpa using hx)
   ·exact⟨0,by simp,fun j x hj=>by omega,fun x hx=>by simp at hx;subst hx;exact hy⟩
 obtain⟨m,hm,h1,h2⟩:=key
 have hlow:∀x∈l.take m,Lt x n:=by
  intro x hx
  obtain⟨i,hi,rfl⟩:=List.mem_iff_getElem.1 hx
  rw[List.length_take] at hi
  rw[List.getElem_take]
  exact h1 i _ (by omega) (List.getElem?_eq_getElem (by omega))
 have hloop:=OC l n m hm (by omega) h1 h2 m 0 (by omega)
 rw[show ((0:Nat):Int)=0 from rfl] at hloop
 unfold yw
 rw[hloop]
 simp only[ch,bQ]
 have s1:jS l.length 0 (m:Int)=some ():=by unfold jS;rw[if_pos (by omega)]
 have s2:jS l.length (m:Int) (len l)=some ():=by unfold jS;rw[if_pos (by simp only[len];omega)]
 have p1:jT l (0+Int.toNat 0) (Int.toNat (m:Int) - Int.toNat 0)=some (l.take m):=by
  unfold jT
  simp only[Int.toNat_zero,Int.toNat_natCast,Nat.zero_add,Nat.sub_zero,List.drop_zero]
  rw[if_pos hm]
 have p2:jT l (0+Int.toNat (m:Int)) (Int.toNat (len l) - Int.toNat (m:Int))=some (l.drop m):=by
  unfold jT
  simp only[Int.toNat_natCast,Nat.zero_add,len]
  rw[if_pos (by omega),List.take_of_length_le (by rw[List.length_drop];omega)]
 have a1:iX 16 ([]:List ae) (l.take m)=some (l.take m):=by rw[NQ (by simp only[List.length_nil,List.length_take];omega) (by simp only[List.length_nil,List.length_take];omega)];rfl
 have a2:iX 16 (l.take m) [n]=some (l.take m++[n]):=sD (by rw[List.length_take];omega) (by rw[List.length_take];omega)
 have a3:iX 16 (l.take m++[n]) (l.drop m)=some (l.take m++[n]++l.drop m):=NQ (by simp only[List.length_append,List.length_take,List.length_drop,List.length_singleton];omega) (by simp only[List.length_append,List.length_take,List.length_drop,List.length_singleton];omega)
 have hins:(∀x∈l.drop m,Lt n x)→(l.take m++[n]++l.drop m).Pairwise Lt∧(∀x,x∈l.take m++[n]++l.drop m↔x∈l∨x=n)∧(l.take m++[n]++l.drop m).length≤l.length+1:=by
  intro hhi
  have hs2:=hs
  rw[←List.take_append_drop m l,List.pairwise_append] at hs2
  refine⟨List.pairwise_append.2 ⟨List.pairwise_append.2 ⟨hs2.1,List.pairwise_singleton _ _,fun x hx y hy=>?_⟩,hs2.2.1,fun x hx y hy=>?_⟩,fun x=>?_,?_⟩
  ·rw[List.mem_singleton] at hy;subst hy;exact hlow x hx
  ·rcases List.mem_append.1 hx with hx | hx
   ·exact hs2.2.2 x hx y hy
   ·rw[List.mem_singleton] at hx;subst hx;exact hhi y hy
  ·have:x∈l↔x∈l.take m∨x∈l.drop m:=by
    rw[←List.mem_append,List.take_append_drop]
   rw[List.mem_append,List.mem_append,List.mem_singleton,this]
   constructor
   ·rintro ((h | h) | h)
    ·exact .inl (.inl h)
    ·exact .inr h
    ·exact .inl (.inr h)
   ·rintro ((h | h) | h)
    ·exact .inl (.inl h)
    ·exact .inr h
    ·exact .inl (.inr h)
  ·simp only[List.length_append,List.length_take,List.length_drop,List.length_singleton];omega
 by_cases hb:m<l.length
 ·have hx:=List.getElem?_eq_getElem hb
  have hge:=h2 _ hx
  have hrest:∀x∈l.drop (m+1),Lt l[m] x:=by
   intro x hx
   obtain⟨i,hi,rfl⟩:=List.mem_iff_getElem.1 hx
   rw[List.length_drop] at hi
   rw[List.getElem_drop]
   exact List.pairwise_iff_getElem.1 hs m (m+1+i) hb (by omega) (by omega)
  rw[decide_eq_true hb,cond_true,bX,hx,Option.bind_some,ch,Ai]
  by_cases he:l[m]=n
  ·rw[decide_eq_true he,cond_true]
   refine⟨l,rfl,hs,fun x=>⟨.inl,?_⟩,by omega⟩
   rintro (h | h)
   ·exact h
   ·rw[h,←he];exact List.getElem_mem hb
  ·rw[decide_eq_false he,cond_false]
   simp only[s1,p1,a1,a2,s2,p2,a3,Option.bind_some]
   refine⟨_,rfl,hins ?_⟩
   intro x hx
   rw[List.drop_eq_getElem_cons hb] at hx
   rcases List.mem_cons.1 hx with rfl | hx
   ·exact (tri n l[m]).resolve_right fun h=>h.elim (fun e=>he e.symm) hge
   ·have h1:Lt n l[m]:=(tri n l[m]).resolve_right fun h=>h.elim (fun e=>he e.symm) hge
    exact h1.trans (hrest x hx)
 ·rw[decide_eq_false hb,cond_false,ch,cond_false]
  simp only[s1,p1,a1,a2,s2,p2,a3,Option.bind_some]
  refine⟨_,rfl,hins ?_⟩
  intro x hx
  rw[List.drop_of_length_le (by omega)] at hx
  cases hx
end StrL
theorem Ak {x y:ae}:decide (x≤y)=true↔StrL.Le x y:=by
 unfold StrL.Le StrL.Lt
 rw[Go.Proofs.bytesLess_eq,decide_eq_true_iff,decide_eq_true_iff]
 exact Iff.rfl
theorem aaO (l:List ae):(l.mergeSort fun x y=>decide (x≤y)).Pairwise StrL.Le:=by
 have h:=List.pairwise_mergeSort (le:=fun x y:ae=>decide (x≤y)) (fun x y z h1 h2=>by
  rw[Ak] at *;exact h1.trans h2) (fun x y=>by
  rw[Bool.or_eq_true,Ak,Ak]
  rcases StrL.tri x y with h | h | h
  ·exact .inl h.le
  ·subst h;exact .inl fun h=>h.irrefl
  ·exact .inr h.le) l
 exact h.imp fun {x y} h=>Ak.1 h
theorem XS (l r:List ae)(hl:l.length≤1048576)(hr:r.Pairwise StrL.Lt)(hm:∀x,x∈r↔x∈l):B2 l=some r:=by
 unfold B2 vU
 have hl2:(l.mergeSort fun (x y:ae)=>decide (x≤y)).length=l.length:=List.length_mergeSort _
 rw[Nat.ble_eq_true_of_le hl,cond_true,Option.bind_some,hl2,Nat.beq_refl,cond_true,StrL.compact_val _ (by rw[hl2];exact hl),Option.bind_some]
 obtain⟨h1,h2⟩:=StrL.dd_ok (aaO l)
 congr 1
 refine StrL.asc_uniq h1 hr fun x=>?_
 rw[h2,hm]
 exact (List.mergeSort_perm l _).mem_iff
theorem DX (b x:Bool):(bif b then x else false)=(b&&x):=by cases b<;>rfl
def fg (x a b:Int):Bool:=decide (x≥a)&&decide (x≤b)
theorem nj (x a b:Int):eN x a b=some (fg x a b):=by simp only[eN,eg,DX,fg]
theorem ly (x a b:Int):jE x a b=some (fg x a b):=by simp only[jE,eg,DX,fg]
def lI (c:UInt8):Bool:=(decide (97≤c.toNat)&&decide (c.toNat≤122))||(decide (48≤c.toNat)&&decide (c.toNat≤57))
theorem XC (c:UInt8):yy (c.toNat:Int)=some (lI c):=by
 simp only[yy,lI,eg]
 by_cases h1:97≤c.toNat<;>by_cases h2:c.toNat≤122<;>by_cases h3:48≤c.toNat<;>by_cases h4:c.toNat≤57<;>simp[h1,h2,h3,h4,show ((97:Int)≤c.toNat)↔97≤c.toNat by omega,show ((c.toNat:Int)≤122)↔c.toNat≤122 by omega,show ((48:Int)≤c.toNat)↔48≤c.toNat by omega,show ((c.toNat:Int)≤57)↔c.toNat≤57 by omega]
def nk:List ae:=[[116,114,117,101],[102,114,111,109],[110,111,116],[97,110,100],[111,114],[98,111,116,104],[101,105,116,104,101,114],[105,116],[105,110]]
def gM (s:ae):Bool:=match s with
 | []=>false
 | c::r=>decide (r.length<8)&&decide (97≤c.toNat)&&decide (c.toNat≤122)&&s.all lI && !nk.contains s
theorem ack (b x:Bool):(bif b then b else x)=(b||x):=by cases b<;>rfl
theorem Qg:DN [116,114,117,101,32,102,114,111,109,32,110,111,116,32,97,110,100,32,111,114,32,98,111,116,104,32,101,105,116,104,101,114,32,105,116,32,105,110] [32]=some nk:=by
 have h:zK [116,114,117,101,32,102,114,111,109,32,110,111,116,32,97,110,100,32,111,114,32,98,111,116,104,32,101,105,116,104,101,114,32,105,116,32,105,110] [32] 0 (-1) 9 ([116,114,117,101,32,102,114,111,109,32,110,111,116,32,97,110,100,32,111,114,32,98,111,116,104,32,101,105,116,104,101,114,32,105,116,32,105,110],0,List.replicate 9 [])=some (.inr ([105,110],8,[[116,114,117,101],[102,114,111,109],[110,111,116],[97,110,100],[111,114],[98,111,116,104],[101,105,116,104,101,114],[105,116],[]])):=
  (jJ (fun a=>(Bw _ _ _ _ _ a).1)).2 ⟨20,by decide +kernel⟩
 have e:DN [116,114,117,101,32,102,114,111,109,32,110,111,116,32,97,110,100,32,111,114,32,98,111,116,104,32,101,105,116,104,101,114,32,105,116,32,105,110] [32]=(bd (zK [116,114,117,101,32,102,114,111,109,32,110,111,116,32,97,110,100,32,111,114,32,98,111,116,104,32,101,105,116,104,101,114,32,105,116,32,105,110] [32] 0 (-1) 9 ([116,114,117,101,32,102,114,111,109,32,110,111,116,32,97,110,100,32,111,114,32,98,111,116,104,32,101,105,116,104,101,114,32,105,116,32,105,110],0,List.replicate 9 [])) fun u12:ae×Int×(List ae)=>(aE u12.2.2 u12.2.1).bind fun e13=>(jS (bI u12.2.2 u12.2.1 u12.1).length 0 (ac (u12.2.1+1))).bind fun s14=>(jT (bI u12.2.2 u12.2.1 u12.1) (0+Int.toNat (0)) (Int.toNat ((ac (u12.2.1+1))) - Int.toNat (0))).bind fun p15=>some p15).bind fun r=>some r:=by rfl
 rw[e,h]
 rfl
theorem JN (s:ae):sk nk s=some (nk.contains s):=by
 unfold sk C8
 rw[oV (L:=rU nk s) (a:=nk) (p:=fun e=>some (s==e)) (q:=fun e=>s==e) (fun _ _=>rfl) (fun x=>by rw[Gf,lY]<;>rfl) (by decide)]
 cases h:nk.findIdx? (fun e=>s==e) with
 | none=>
  have:nk.contains s=false:=by
   rw[List.findIdx?_eq_none_iff] at h
   rw[Bool.eq_false_iff]
   intro hc
   rw[List.contains_iff_exists_mem_beq] at hc
   obtain⟨w,hw,he⟩:=hc
   rw[h w hw] at he
   cases he
  rw[this]
  rfl
 | some i=>
  have:nk.contains s=true:=by
   rw[List.findIdx?_eq_some_iff_getElem] at h
   obtain⟨hi,he,_⟩:=h
   rw[List.contains_iff_exists_mem_beq]
   exact⟨_,List.getElem_mem hi,he⟩
  rw[this]
  simp
theorem SN (s:ae):(bif s==[116,114,117,101] then s==[116,114,117,101] else bif s==[102,114,111,109] then s==[102,114,111,109] else bif s==[110,111,116] then s==[110,111,116] else bif s==[97,110,100] then s==[97,110,100] else bif s==[111,114] then s==[111,114] else bif s==[98,111,116,104] then s==[98,111,116,104] else bif s==[101,105,116,104,101,114] then s==[101,105,116,104,101,114] else bif s==[105,116] then s==[105,116] else s==[105,110])=nk.contains s:=by
 simp only[ack,nk,List.contains_cons,List.contains_nil,Bool.or_false]
theorem rd (s:ae)(hs:s.length≤1048576):su s=some (gM s):=by
 unfold su eN gM
 simp only[eg,Option.bind_some,SN]
 cases s with
 | nil=>rfl
 | cons c r=>
  have e1:decide (len (c::r)≥1)=true:=decide_eq_true (by simp[len];omega)
  have e2:decide (len (c::r)≤8)=decide (r.length<8):=by simp only[len,List.length_cons];congr 1;apply propext;omega
  have e3:aE (c::r) (0:Int)=some c:=rfl
  have e4:decide ((c.toNat:Int)<97)=!decide (97≤c.toNat):=by rw[←decide_not];congr 1;apply propext;omega
  have e5:decide ((c.toNat:Int)>122)=!decide (c.toNat≤122):=by rw[←decide_not];congr 1;apply propext;omega
  rw[e1,e2,e3,zP (r:=false) (L:=vh (c::r)) (a:=c::r) (p:=fun c=>(yy (c.toNat:Int)).bind fun r=>some (!r)) (q:=fun c=>!lI c) (fun x _=>by rw[XC];rfl) (fun x=>by rw[RB,oG];simp only[Option.bind_assoc,Option.bind_some]) (by omega)]
  simp only[cond_true,Option.bind_some,e4,e5]
  have e6:((c::r).any fun c=>!lI c)=!((c::r).all lI):=by rw[List.not_all_eq_any_not]
  rw[e6]
  cases decide (r.length<8)<;>cases decide (97≤c.toNat)<;>cases decide (c.toNat≤122)<;>cases (c::r).all lI<;>cases nk.contains (c::r)<;>rfl
theorem qT (s:ae)(hs:s.length≤1048576):xj s=some (gM s):=by
 unfold xj jE gM
 simp only[eg,Option.bind_some,Qg,JN]
 cases s with
 | nil=>rfl
 | cons c r=>
  have e1:decide (len (c::r)≥1)=true:=decide_eq_true (by simp[len];omega)
  have e2:decide (len (c::r)≤8)=decide (r.length<8):=by simp only[len,List.length_cons];congr 1;apply propext;omega
  have e3:aE (c::r) (0:Int)=some c:=rfl
  have e4:decide ((c.toNat:Int)<97)=!decide (97≤c.toNat):=by rw[←decide_not];congr 1;apply propext;omega
  have e5:decide ((c.toNat:Int)>122)=!decide (c.toNat≤122):=by rw[←decide_not];congr 1;apply propext;omega
  have hp:∀c:UInt8,(bif decide ((c.toNat:Int)<97) then (bif decide ((c.toNat:Int)<48) then true else decide ((c.toNat:Int)>57)) else (bif decide ((c.toNat:Int)>122) then (bif decide ((c.toNat:Int)<48) then true else decide ((c.toNat:Int)>57)) else false))=!lI c:=by
   intro c
   have f1:decide ((c.toNat:Int)<97)=!decide (97≤c.toNat):=by rw[←decide_not];congr 1;apply propext;omega
   have f2:decide ((c.toNat:Int)>122)=!decide (c.toNat≤122):=by rw[←decide_not];congr 1;apply propext;omega
   have f3:decide ((c.toNat:Int)<48)=!decide (48≤c.toNat):=by rw[←decide_not];congr 1;apply propext;omega
   have f4:decide ((c.toNat:Int)>57)=!decide (c.toNat≤57):=by rw[←decide_not];congr 1;apply propext;omega
   rw[f1,f2,f3,f4]
   unfold lI
   by_cases g1:97≤c.toNat
   ·have g3:48≤c.toNat:=by omega
    have g4:¬c.toNat≤57:=by omega
    simp only[g1,g3,g4,decide_true,decide_false]
    cases decide (c.toNat≤122)<;>rfl
   ·simp only[g1,decide_false]
    cases decide (48≤c.toNat)<;>cases decide (c.toNat≤57)<;>rfl
  rw[e1,e2,e3,zP (r:=false) (L:=yu (c::r)) (a:=c::r) (p:=fun c=>some (!lI c)) (q:=fun c=>!lI c) (fun x _=>rfl) (fun x=>by rw[VW,pZ];simp only[eg,hp,Option.bind_some]) (by omega)]
  simp only[cond_true,Option.bind_some,e4,e5]
  have e6:((c::r).any fun c=>!lI c)=!((c::r).all lI):=by rw[List.not_all_eq_any_not]
  rw[e6]
  cases decide (r.length<8)<;>cases decide (97≤c.toNat)<;>cases decide (c.toNat≤122)<;>cases (c::r).all lI<;>cases nk.contains (c::r)<;>rfl
theorem iz {ρ υ σ : Type}{L : Nat → σ → Option (ρ ⊕ υ)}(N : Nat)(J : Nat → σ → Prop)(T : ρ ⊕ υ → Prop)(hs : ∀ i s,i < N→J i s→(∃ s',J (i + 1) s' ∧ L i s=L (i + 1) s') ∨ ∃ y,T y ∧ L i s=some y)(he : ∀ s,J N s→∃ y,T y ∧ L N s=some y){s : σ}(h0 : J 0 s) : ∃ y,T y ∧ L 0 s=some y:=by
  have key : ∀ k i s,i + k=N→J i s→∃ y,T y ∧ L i s=some y:=by
    intro k
    induction k with
    | zero => intro i s hi hj; obtain rfl : i = N := by omega
              exact he s hj
    | succ k ih =>
      intro i s hi hj
      rcases hs i s (by omega) hj with ⟨s',h1,h2⟩ | h
      · rw [h2]; exact ih (i + 1) s' (by omega) h1
      · exact h
  exact key N 0 s (by omega) h0
theorem JL {α:Type}{L:Int→Option (Bool⊕Unit)}{a:List α}{f:α→Option Bool}{p:α→Bool}(hf:∀x∈a,f x=some (p x))(hL:∀x,L x=bif decide (x<len a) then (aE a x).bind fun e=>(f e).bind fun r=>bif !r then some (.inl false) else L (ac (x+1)) else some (.inr ()))(hb:a.length<9223372036854775807):L 0=some (if a.all p then .inr () else .inl false):=by
 obtain⟨y,h1,h2⟩:=iz (L:=fun i (_:Unit)=>L (i:Int)) a.length (fun i _=>(a.take i).all p=true) (fun y=>y=if a.all p then .inr () else .inl false) (s:=())
  (by
   intro i _ hi hj
   have hx:=List.getElem?_eq_getElem hi
   rw[show L (i:Int)=_ from hL _,bQ,decide_eq_true hi,cond_true,bX,hx,Option.bind_some,hf _ (List.getElem_mem hi),Option.bind_some,cV (by omega)]
   cases hp:p a[i] with
   | true=>
    refine .inl ⟨(),?_,rfl⟩
    rw[List.take_add_one,hx,List.all_append,hj]
    simp[hp]
   | false=>
    refine .inr ⟨_,?_,rfl⟩
    rw[if_neg]
    intro h
    rw[List.all_eq_true] at h
    rw[h _ (List.getElem_mem hi)] at hp
    cases hp)
  (by
   intro _ hj
   refine⟨_,rfl,?_⟩
   rw[List.take_length] at hj
   rw[show L (a.length:Int)=_ from hL _,bQ,decide_eq_false (by omega),cond_false,if_pos hj]) (by simp)
 rw[show L 0=some y from h2,h1]
theorem wA {ρ υ α:Type}{q:α→Bool}{y0 y1:ρ⊕υ}:∀{a:List α} {L:Nat→Option (ρ⊕υ)},(∀(i:Nat) x,a[i]?=some x→L i=bif q x then some y0 else L (i+1))→L a.length=some y1→L 0=some (if a.any q then y0 else y1)
 | [],L,_,he=>by simpa using he
 | x::a,L,hL,he=>by
  rw[hL 0 x rfl,wA (a:=a) (L:=fun i=>L (i+1)) (y0:=y0) (y1:=y1) (fun i z hz=>hL (i+1) z (by simpa using hz)) (by simpa using he),List.any_cons]
  cases q x<;>rfl
def tD (c:Condition):Bool:=
 if c.Op=1 then decide (c.Parts.length=0)&&(decide (c.Name=[])&&decide (c.Day=0))
 else if c.Op=2 then decide (c.Parts.length=0)&&(gM c.Name&&decide (c.Day=0))
 else if c.Op=3 then decide (c.Parts.length=0)&&(decide (c.Name=[])&&fg c.Day 0 36524)
 else if c.Op=4 then decide (c.Parts.length=1)&&(decide (c.Name=[])&&decide (c.Day=0))
 else if c.Op=5∨c.Op=6 then decide (c.Parts.length=2)&&(decide (c.Name=[])&&decide (c.Day=0))
 else false
mutual
def gl:Condition→Bool
 | ⟨a0,a1,a2,a3⟩=>tD ⟨a0,a1,a2,a3⟩&&zU a3
def zU:List Condition→Bool
 | []=>true
 | x::xs=>gl x&&zU xs
end
theorem BI:∀a,zU a=a.all gl
 | []=>rfl
 | x::xs=>by simp[zU,BI xs]
theorem yY (c:Condition):gl c=(tD c&&c.Parts.all gl):=by cases c;simp only[gl,BI]
theorem zX {α:Type}{a:List α}{n:Nat}:(len a==(n:Int))=decide (a.length=n):=by
 rw[vE]
 by_cases h:a.length=n
 ·rw[decide_eq_true h,decide_eq_true];simp only[len];omega
 ·rw[decide_eq_false h,decide_eq_false];simp only[len];omega
theorem XB (c:Condition)(hn:c.Name.length≤1048576):Ds c=some (tD c):=by
 have l0:(len c.Parts==0)=decide (c.Parts.length=0):=zX (n:=0)
 have l1:(len c.Parts==1)=decide (c.Parts.length=1):=zX (n:=1)
 have l2:(len c.Parts==2)=decide (c.Parts.length=2):=zX (n:=2)
 unfold Ds tD
 simp only[eg,rd _ hn,Option.bind_some,pW,nj,l0,l1,l2,Ai,vE,DX]
 by_cases o1:c.Op=1
 ·simp only[o1,decide_true,cond_true,if_true]
 by_cases o2:c.Op=2
 ·rw[decide_eq_false o1,decide_eq_true o2,cond_false,cond_true,if_neg o1,if_pos o2]
  cases decide (c.Parts.length=0)<;>rfl
 by_cases o3:c.Op=3
 ·rw[decide_eq_false o1,decide_eq_false o2,decide_eq_true o3,cond_false,cond_false,cond_true,if_neg o1,if_neg o2,if_pos o3]
  cases decide (c.Parts.length=0)<;>cases decide (c.Name=[])<;>rfl
 by_cases o4:c.Op=4
 ·rw[decide_eq_false o1,decide_eq_false o2,decide_eq_false o3,decide_eq_true o4,if_neg o1,if_neg o2,if_neg o3,if_pos o4]
  rfl
 rw[decide_eq_false o1,decide_eq_false o2,decide_eq_false o3,decide_eq_false o4,if_neg o1,if_neg o2,if_neg o3,if_neg o4]
 by_cases o5:c.Op=5
 ·simp only[o5,decide_true,cond_true,cond_false,true_or,if_true]
 ·by_cases o6:c.Op=6
  ·rw[if_pos (.inr o6),decide_eq_false o5,decide_eq_true o6];rfl
  ·rw[if_neg (by omega),decide_eq_false o5,decide_eq_false o6];rfl
theorem SK (c:Condition):cy c→Jo c=some (gl c):=by
 refine gm (P:=fun c=>cy c→Jo c=some (gl c)) ?_ c
 intro c ih hc
 rw[gy] at hc
 rw[abF]
 unfold vf
 rw[XB c hc.2.1,Option.bind_some,yY]
 cases tD c with
 | false=>rfl
 | true=>
  have hl:c.Parts.length≤1048576:=hc.2.2.2.1.1
  simp only[Bool.not_true,cond_false,Bool.true_and]
  rw[JL (L:=rY (aJ ss) c) (a:=c.Parts) (f:=fun e=>Jo e) (p:=gl) (fun x hx=>ih x hx (hc.2.2.2.1.2 x hx)) (fun x=>by rw[Rz,l7]<;>rfl) (by omega)]
  cases c.Parts.all gl<;>rfl
theorem se (a:List Condition)(i:Nat)(h:i<a.length):aP (a.take (i+1))=aP (a.take i)+bV a[i]:=by
 have app:∀(x y:List Condition),aP (x++y)=aP x+aP y:=by
  intro x y
  induction x with
  | nil=>simp[aP]
  | cons z x ih=>simp only[List.cons_append,aP,ih];omega
 rw[List.take_add_one,List.getElem?_eq_getElem h,app]
 simp[aP]
theorem mZ (a:List Condition)(i:Nat):aP (a.take i)≤aP a:=by
 have app:∀(x y:List Condition),aP (x++y)=aP x+aP y:=by
  intro x y
  induction x with
  | nil=>simp[aP]
  | cons z x ih=>simp only[List.cons_append,aP,ih];omega
 have:=app (a.take i) (a.drop i)
 rw[List.take_append_drop] at this
 omega
theorem afl {a:List Condition}{i:Nat}(h:i<a.length):bV a[i]≤aP a:=by
 have h1:=se a i h
 have h2:=mZ a (i+1)
 omega
theorem XD (c:Condition):bV c≤2000000→Nj c=some ((bV c:Nat):Int):=by
 refine gm (P:=fun c=>bV c≤2000000→Nj c=some ((bV c:Nat):Int)) ?_ c
 intro c ih hc
 have hc':=fQ c
 have hcs:=ii c.Parts
 rw[abI]
 unfold vm
 obtain⟨y,h1,h2⟩:=iz (L:=fun i (s:Int)=>mN (aJ ma) c (s,(i:Int))) c.Parts.length (fun i s=>s=((1+aP (c.Parts.take i):Nat):Int)) (fun y=>y=.inr ((bV c:Nat):Int)) (s:=1)
  (by
   intro i s hi hj
   have hx:=List.getElem?_eq_getElem hi
   have h3:=se c.Parts i hi
   have h4:=mZ c.Parts (i+1)
   refine .inl ⟨((1+aP (c.Parts.take (i+1)):Nat):Int),rfl,?_⟩
   show mN (aJ ma) c (s,(i:Int))=_
   rw[He,kB]
   simp only[bQ,decide_eq_true hi,cond_true,bX,hx,Option.bind_some]
   rw[show aJ ma c.Parts[i]=some ((bV c.Parts[i]:Nat):Int) from ih _ (List.getElem_mem hi) (by omega),Option.bind_some,cV (by omega),hj,dW (by omega) (by omega)]
   congr 2
   omega)
  (by
   intro s hj
   refine⟨_,rfl,?_⟩
   rw[List.take_length] at hj
   show mN (aJ ma) c (s,(c.Parts.length:Int))=_
   rw[He,kB]
   simp only[bQ,decide_eq_false (Nat.lt_irrefl _),cond_false]
   rw[hj,hc']) (by simp[aP])
 rw[show mN (aJ ma) c (1,0)=some y from h2,h1]
 rfl
def rA (c:Condition):Bool:=gl c&&decide (bV c≤15)
theorem agy {c:Condition}(h:cy c):bV c≤1048577:=by
 rw[gy] at h
 rw[fQ]
 omega
theorem Xz (c:Condition)(h:cy c):Dv c=some (rA c):=by
 unfold Dv rA
 rw[SK c h,Option.bind_some]
 cases gl c with
 | false=>rfl
 | true=>
  have:=agy h
  simp only[cond_true,Bool.true_and]
  rw[XD c (by omega),Option.bind_some,ch]
  congr 1
  by_cases h:bV c≤15
  ·rw[decide_eq_true h,decide_eq_true (by omega)]
  ·rw[decide_eq_false h,decide_eq_false (by omega)]
def SS (op:Int):Nat:=if op=4 then 1 else if op=5∨op=6 then 2 else 0
def J0 (c:Condition):Bool:=fg c.Op 1 6&&decide (c.Parts.length=SS c.Op)
def IJ (c:Condition):Bool:=((c.Op==2) == !(c.Name==([]:ae)))&&((if c.Op=2 then gM c.Name else true)&&((if c.Op=3 then true else decide (c.Day=0))&&fg c.Day 0 36524))
theorem qh {x a b:Int}:fg x a b=true↔a≤x∧x≤b:=by simp[fg]
theorem W4 (c:Condition):((jE c.Op 1 6).bind fun r20=>cj (ρ:=Int) (bif (!r20) then (some (.inr true)) else ((aE [(-1),0,0,0,1,2,2] c.Op).bind fun e22=>some (.inr ((len c.Parts) != e22)))) fun u21:Bool=>(some (.inr u21):Option (Int⊕Bool)))=some (.inr (!J0 c)):=by
 rw[ly,Option.bind_some]
 unfold J0
 cases h:fg c.Op 1 6 with
 | false=>rfl
 | true=>
  rw[qh] at h
  have ho:c.Op=1∨c.Op=2∨c.Op=3∨c.Op=4∨c.Op=5∨c.Op=6:=by omega
  have key:aE [(-1),0,0,0,1,2,2] c.Op=some ((SS c.Op:Nat):Int):=by rcases ho with h | h | h | h | h | h<;>rw[h]<;>rfl
  simp only[Bool.not_true,cond_false,key,Option.bind_some,eL,Bool.true_and,bne,zX]
theorem W5 (c:Condition)(hn:c.Name.length≤1048576):(bif (!((c.Op==2)==(!(c.Name==([]:ae))))) then (some (.inr true)) else (cj (ρ:=Int) (bif (c.Op==2) then ((xj c.Name).bind fun r10=>cj (ρ:=Int) (bif (!r10) then (some (.inr true)) else (cj (ρ:=Int) (bif (c.Op != 3) then (cj (ρ:=Int) (bif (c.Day != 0) then (some (.inr true)) else ((oP c.Day).bind fun r14=>some (.inr (!r14)))) fun u13:Bool=>some (.inr u13)) else ((oP c.Day).bind fun r15=>some (.inr (!r15)))) fun u12:Bool=>some (.inr u12))) fun u11:Bool=>some (.inr u11)) else (cj (ρ:=Int) (bif (c.Op != 3) then (cj (ρ:=Int) (bif (c.Day != 0) then (some (.inr true)) else ((oP c.Day).bind fun r18=>some (.inr (!r18)))) fun u17:Bool=>some (.inr u17)) else ((oP c.Day).bind fun r19=>some (.inr (!r19)))) fun u16:Bool=>some (.inr u16))) fun u9:Bool=>(some (.inr u9):Option (Int⊕Bool))))=some (.inr (!IJ c)):=by
 unfold IJ
 simp only[qT _ hn,oP,ly,Option.bind_some,acy]
 cases ((c.Op==2) == !(c.Name==([]:ae))) with
 | false=>rfl
 | true=>
  simp only[Bool.not_true,cond_false,Bool.true_and]
  by_cases o2:c.Op=2
  ·simp only[o2,if_true,show ((2:Int)==2)=true from rfl,cond_true,show ¬(2:Int)=3 by omega,if_false,decide_false,Bool.not_false]
   cases gM c.Name<;>by_cases hd:c.Day=0<;>simp[hd]
  ·have:(c.Op==2)=false:=beq_eq_false_iff_ne.2 o2
   rw[this,cond_false,if_neg o2]
   by_cases o3:c.Op=3
   ·simp[o3]
   ·by_cases hd:c.Day=0<;>simp[o3,hd]
theorem Ik (c:Condition):tD c=(J0 c&&IJ c):=by
 have name0:c.Name=[]→gM c.Name=false:=fun h=>by rw[h];rfl
 have d0:c.Day=0→fg c.Day 0 36524=true:=fun h=>by rw[h];rfl
 have in1:fg c.Op 1 6=decide (1≤c.Op∧c.Op≤6):=by rw[Bool.eq_iff_iff,qh,decide_eq_true_iff]
 unfold tD J0 IJ
 rw[in1,show SS c.Op=if c.Op=4 then 1 else if c.Op=5∨c.Op=6 then 2 else 0 from rfl]
 by_cases hn:c.Name=[]
 ·by_cases hd:c.Day=0
  ·by_cases o1:c.Op=1
   ·simp[o1,hn,hd,fg]
   by_cases o2:c.Op=2
   ·simp[o2,hn,hd,gM]
   by_cases o3:c.Op=3
   ·simp[o3,hn,hd,fg]
   by_cases o4:c.Op=4
   ·simp[o4,hn,hd,fg]
   by_cases o5:c.Op=5
   ·simp[o5,hn,hd,fg]
   by_cases o6:c.Op=6
   ·simp[o6,hn,hd,fg]
   have:¬(1≤c.Op∧c.Op≤6):=by omega
   simp[o1,o2,o3,o4,o5,o6,decide_eq_false this]
  ·by_cases o3:c.Op=3
   ·simp[o3,hn]
   ·by_cases o2:c.Op=2<;>simp[o2,o3,hd]
 ·have hb:(c.Name==([]:ae))=false:=beq_eq_false_iff_ne.2 hn
  by_cases o2:c.Op=2
  ·by_cases hd:c.Day=0<;>simp[o2,hn,hd,fg,hb]
  ·simp[o2,hn,hb]
theorem Sl (c:Condition):cy c→∀so:Nat,so≤15→Wv c (so:Int)=some (if gl c=true∧so+bV c≤15 then ((so+bV c:Nat):Int) else -1):=by
 refine gm (P:=fun c=>cy c→∀so:Nat,so≤15→Wv c (so:Int)=some (if gl c=true∧so+bV c≤15 then ((so+bV c:Nat):Int) else -1)) ?_ c
 intro c ih hc so hso
 rw[gy] at hc
 have hnc:=fQ c
 rw[ae0]
 unfold zM
 rw[W4,W5 c hc.2.1,cV (by omega),yY,Ik]
 by_cases h15:so+1≤15
 ·rw[decide_eq_false (by omega),cond_false]
  cases J0 c with
  | false=>rfl
  | true=>
  cases IJ c with
  | false=>rfl
  | true=>
   simp only[Bool.not_true,ch,cond_false,Bool.true_and]
   obtain⟨y,h1,h2⟩:=iz (L:=fun i (s:Int)=>nm (aJ nz) c (so:Int) (s,(i:Int))) c.Parts.length
    (fun i s=>s=((so+1+aP (c.Parts.take i):Nat):Int)∧so+1+aP (c.Parts.take i)≤15∧(c.Parts.take i).all gl=true)
    (fun y=>y=if c.Parts.all gl=true∧so+bV c≤15 then .inr ((so+bV c:Nat):Int) else .inl (-1)) (s:=((so+1:Nat):Int))
    (by
     rintro i s hi ⟨hj,hj2,hj3⟩
     have hx:=List.getElem?_eq_getElem hi
     have h3:=se c.Parts i hi
     have h4:=mZ c.Parts (i+1)
     have h5:=ih _ (List.getElem_mem hi) (hc.2.2.2.1.2 _ (List.getElem_mem hi)) (so+1+aP (c.Parts.take i)) hj2
     show (∃s',_∧nm (aJ nz) c (so:Int) (s,(i:Int))=_)∨∃y,_∧nm (aJ nz) c (so:Int) (s,(i:Int))=_
     rw[Ks,mi]
     simp only[bQ,decide_eq_true hi,cond_true,bX,hx,Option.bind_some,hj]
     rw[show aJ nz (c.Parts[i],((so+1+aP (c.Parts.take i):Nat):Int))=_ from h5,Option.bind_some,cV (by have:=hc.2.2.2.1.1;omega)]
     by_cases hq:gl c.Parts[i]=true∧so+1+aP (c.Parts.take i)+bV c.Parts[i]≤15
     ·rw[if_pos hq,decide_eq_false (by omega),cond_false]
      refine .inl ⟨_,⟨?_,?_,?_⟩,rfl⟩
      ·congr 1;omega
      ·omega
      ·rw[List.take_add_one,hx,List.all_append,hj3];simp[hq.1]
     ·rw[if_neg hq,decide_eq_true (by omega),cond_true]
      refine .inr ⟨_,?_,rfl⟩
      rw[if_neg]
      rintro⟨h6,h7⟩
      rw[List.all_eq_true] at h6
      exact hq ⟨h6 _ (List.getElem_mem hi),by omega⟩)
    (by
     rintro s ⟨hj,hj2,hj3⟩
     rw[List.take_length] at *
     show ∃y,_∧nm (aJ nz) c (so:Int) (s,(c.Parts.length:Int))=_
     rw[Ks,mi]
     simp only[bQ,decide_eq_false (Nat.lt_irrefl _),cond_false]
     refine⟨_,?_,rfl⟩
     rw[if_pos ⟨hj3,by omega⟩,hj]
     congr 2;omega) ⟨by simp[aP],by simp[aP];omega,by simp⟩
   rw[show nm (aJ nz) c (so:Int) (((so+1:Nat):Int),0)=some y from h2,h1]
   by_cases hq:c.Parts.all gl=true∧so+bV c≤15
   ·rw[if_pos hq,if_pos hq];rfl
   ·rw[if_neg hq,if_neg hq];rfl
 ·rw[decide_eq_true (by omega),cond_true,ch,cond_true,if_neg (by omega)]
theorem W2 (c:Condition)(h:cy c):MH c=some (rA c):=by
 unfold MH rA
 rw[show (0:Int)=((0:Nat):Int) from rfl,Sl c h 0 (by omega),Option.bind_some]
 have:=fQ c
 congr 1
 cases gl c with
 | false=>rfl
 | true=>
  by_cases h:bV c≤15
  ·rw[if_pos ⟨rfl,by omega⟩,decide_eq_true (by omega),decide_eq_true h];rfl
  ·rw[if_neg (by omega),decide_eq_false h];rfl
mutual
def lf:Condition→List ae
 | ⟨op,name,_,parts⟩=>(if op=2 then [name] else [])++fF parts
def fF:List Condition→List ae
 | []=>[]
 | x::xs=>lf x++fF xs
end
theorem KP (c:Condition):lf c=(if c.Op=2 then [c.Name] else [])++fF c.Parts:=by cases c;simp only[lf]
theorem BN:∀(a b:List Condition),fF (a++b)=fF a++fF b
 | [],b=>rfl
 | x::a,b=>by simp only[List.cons_append,fF,BN a b,List.append_assoc]
theorem zh (a:List Condition)(i:Nat)(h:i<a.length):fF (a.take (i+1))=fF (a.take i)++lf a[i]:=by
 rw[List.take_add_one,List.getElem?_eq_getElem h,BN]
 simp[fF]
mutual
theorem Iy:∀c,(lf c).length≤bV c
 | ⟨op,name,day,parts⟩=>by
  have:=uc parts
  simp only[lf,bV,List.length_append]
  split<;>simp<;>omega
theorem uc:∀a,(fF a).length≤aP a
 | []=>by simp[fF]
 | x::a=>by
  have h1:=Iy x
  have h2:=uc a
  simp only[fF,aP,List.length_append]
  omega
end
theorem Sn (c:Condition):∀l:List ae,l.length+bV c≤1000000→Ws c l=some (l++lf c):=by
 refine gm (P:=fun c=>∀l:List ae,l.length+bV c≤1000000→Ws c l=some (l++lf c)) ?_ c
 intro c ih l hl
 have hnc:=fQ c
 have hpl:=ii c.Parts
 rw[aeZ]
 unfold zL
 have h0:(bif (c.Op==2) then ((iX 16 l [c.Name]).bind fun a8=>some (.inr a8)) else (some (.inr l)):Option (List ae⊕List ae))=some (.inr (l++if c.Op=2 then [c.Name] else [])):=by
  rw[vE]
  by_cases h:c.Op=2
  ·rw[decide_eq_true h,cond_true,sD (by omega) (by omega),if_pos h];rfl
  ·rw[decide_eq_false h,cond_false,if_neg h,List.append_nil]
 rw[h0,ch]
 have hlen:(l++if c.Op=2 then [c.Name] else []).length≤l.length+1:=by
  rw[List.length_append];split<;>simp
 rw[KP,←List.append_assoc]
 generalize (l++if c.Op=2 then [c.Name] else [])=l1 at hlen ⊢
 obtain⟨y,h1,h2⟩:=iz (L:=fun i (s:List ae)=>ph (aJ pg) c l ((i:Int),s)) c.Parts.length (fun i s=>s=l1++fF (c.Parts.take i)) (fun y=>y=.inr (l1++fF c.Parts)) (s:=l1)
  (by
   intro i s hi hj
   have hx:=List.getElem?_eq_getElem hi
   have h3:=se c.Parts i hi
   have h4:=mZ c.Parts (i+1)
   have h5:=uc (c.Parts.take i)
   refine .inl ⟨l1++fF (c.Parts.take (i+1)),rfl,?_⟩
   show ph (aJ pg) c l ((i:Int),s)=_
   rw[Kq,mh]
   simp only[bQ,decide_eq_true hi,cond_true,bX,hx,Option.bind_some]
   rw[show aJ pg (c.Parts[i],s)=_ from ih _ (List.getElem_mem hi) s (by rw[hj,List.length_append];omega),Option.bind_some,cV (by omega),hj,zh _ _ hi,List.append_assoc])
  (by
   intro s hj
   refine⟨_,rfl,?_⟩
   rw[List.take_length] at hj
   show ph (aJ pg) c l ((c.Parts.length:Int),s)=_
   rw[Kq,mh]
   simp only[bQ,decide_eq_false (Nat.lt_irrefl _),cond_false]
   rw[hj]) (by simp[fF])
 rw[show ph (aJ pg) c l (0,l1)=some y from h2,h1]
 rfl
theorem Se {c:Condition}(h:tD c=true)(ho:c.Op=2∨c.Op=3):c.Parts=[]:=by
 rw[Ik,J0,SS] at h
 rw[Bool.and_eq_true,Bool.and_eq_true,decide_eq_true_iff] at h
 have:=h.1.2
 rw[if_neg (by omega),if_neg (by omega)] at this
 exact List.length_eq_zero_iff.1 this
theorem SL (c:Condition):gl c=true→∀l:List ae,l.length+bV c≤1000000→l.Pairwise StrL.Lt→∃r,Ng l c=some r∧r.Pairwise StrL.Lt∧(∀x,x∈r↔x∈l∨x∈lf c)∧r.length≤l.length+bV c:=by
 refine gm (P:=fun c=>gl c=true→∀l:List ae,l.length+bV c≤1000000→l.Pairwise StrL.Lt→∃r,Ng l c=some r∧r.Pairwise StrL.Lt∧(∀x,x∈r↔x∈l∨x∈lf c)∧r.length≤l.length+bV c) ?_ c
 intro c ih hf l hl hs
 have hnc:=fQ c
 have hpl:=ii c.Parts
 rw[yY,Bool.and_eq_true,List.all_eq_true] at hf
 rw[abG]
 unfold vi
 rw[vE,KP]
 by_cases ho:c.Op=2
 ·obtain⟨r,e,r1,r2,r3⟩:=StrL.put_val l c.Name (by omega) hs
  rw[decide_eq_true ho,cond_true,e,if_pos ho,Se hf.1 (.inl ho)]
  exact⟨r,rfl,r1,fun x=>by rw[r2];simp[fF],by omega⟩
 rw[decide_eq_false ho,cond_false,if_neg ho,List.nil_append]
 obtain⟨y,h1,h2⟩:=iz (L:=fun i (s:List ae)=>mM (aJ l8) l c ((i:Int),s)) c.Parts.length
  (fun i s=>s.Pairwise StrL.Lt∧(∀x,x∈s↔x∈l∨x∈fF (c.Parts.take i))∧s.length≤l.length+aP (c.Parts.take i))
  (fun y=>∃r,y=.inr r∧r.Pairwise StrL.Lt∧(∀x,x∈r↔x∈l∨x∈fF c.Parts)∧r.length≤l.length+bV c) (s:=l)
  (by
   rintro i s hi ⟨j1,j2,j3⟩
   have hx:=List.getElem?_eq_getElem hi
   have h3:=se c.Parts i hi
   have h4:=mZ c.Parts (i+1)
   obtain⟨r,e,r1,r2,r3⟩:=ih _ (List.getElem_mem hi) (hf.2 _ (List.getElem_mem hi)) s (by omega) j1
   refine .inl ⟨r,⟨r1,fun x=>?_,by omega⟩,?_⟩
   ·rw[r2,j2,zh _ _ hi,List.mem_append,or_assoc]
   show mM (aJ l8) l c ((i:Int),s)=_
   rw[G4,kA]
   simp only[bQ,decide_eq_true hi,cond_true,bX,hx,Option.bind_some]
   rw[show aJ l8 (s,c.Parts[i])=_ from e,Option.bind_some,cV (by omega)])
  (by
   rintro s ⟨j1,j2,j3⟩
   rw[List.take_length] at *
   refine⟨.inr s,⟨s,rfl,j1,j2,by omega⟩,?_⟩
   show mM (aJ l8) l c ((c.Parts.length:Int),s)=_
   rw[G4,kA]
   simp only[bQ,decide_eq_false (Nat.lt_irrefl _),cond_false]) ⟨hs,fun x=>by simp[fF],by simp[aP]⟩
 obtain⟨r,rfl,hr⟩:=h1
 rw[show mM (aJ l8) l c (0,l)=some (.inr r) from h2]
 exact⟨r,rfl,hr⟩
theorem yU (l:List ae)(s:ae)(hl:l.length≤1048576):sk l s=some (l.contains s):=by
 unfold sk C8
 rw[oV (L:=rU l s) (a:=l) (p:=fun e=>some (s==e)) (q:=fun e=>s==e) (fun _ _=>rfl) (fun x=>by rw[Gf,lY]<;>rfl) (by omega)]
 cases h:l.findIdx? (fun e=>s==e) with
 | none=>
  have:l.contains s=false:=by
   rw[List.findIdx?_eq_none_iff] at h
   rw[Bool.eq_false_iff]
   intro hc
   rw[List.contains_iff_exists_mem_beq] at hc
   obtain⟨w,hw,he⟩:=hc
   rw[h w hw] at he
   cases he
  rw[this]
  rfl
 | some i=>
  have:l.contains s=true:=by
   rw[List.findIdx?_eq_some_iff_getElem] at h
   obtain⟨hi,he,_⟩:=h
   rw[List.contains_iff_exists_mem_beq]
   exact⟨_,List.getElem_mem hi,he⟩
  rw[this]
  simp
theorem ZU (a b:ae):(a==b)=(b==a):=by
 rw[Ai,Ai]
 by_cases h:a=b
 ·simp[h]
 ·simp[h,Ne.symm h]
theorem QQ (l:List ae)(s:ae)(hl:l.length≤1048576):wl l s=some (l.contains s):=by
 unfold wl
 rw[zP (L:=vg l s) (a:=l) (p:=fun e=>some (e==s)) (q:=fun e=>e==s) (r:=true) (fun _ _=>rfl) (fun x=>by rw[RA,oC]<;>rfl) (by omega)]
 have:(l.any fun e=>e==s)=l.contains s:=by
  rw[List.contains_eq_any_beq]
  congr 1
  funext e
  exact ZU e s
 rw[this]
 cases l.contains s<;>rfl
def ZS (l:List ae)(k:Nat):Bool:=match l[k]? with
 | some e=>!gM e||(l.take k).contains e
 | none=>false
def zm (l:List ae):Nat→Nat→Bool
 | 0,_=>true
 | n+1,k=>!ZS l k&&zm l n (k+1)
theorem Ej {α:Type}{l:List α}{k:Nat}(h:k≤l.length):lD l 0 (k:Int)=some (l.take k):=by
 unfold lD
 rw[if_pos (by omega)]
 simp
theorem BV (l:List ae)(cs:List Clause)(hl:iK o7 l):∀(n k:Nat),k+n=l.length→vr ⟨l,cs⟩ (k:Int)=some (bif zm l n k then .inr () else .inl false)
 | 0,k,hk=>by
  have h1:=hl.1
  rw[Hv,me]
  simp only[bQ]
  rw[decide_eq_false (by omega)]
  rfl
 | n+1,k,hk=>by
  have h1:=hl.1
  obtain⟨e,he⟩:∃e,l[k]?=some e:=⟨_,List.getElem?_eq_getElem (by omega)⟩
  rw[Hv,me]
  simp only[bQ]
  rw[decide_eq_true (by omega)]
  simp only[cond_true,bX,he,Option.bind_some,rd e (hl.2 e (List.mem_of_getElem? he)),Ej (show k≤l.length by omega),QQ _ e (show (l.take k).length≤1048576 by rw[List.length_take];omega)]
  rw[cV (by omega),BV l cs hl n (k+1) (by omega)]
  simp only[zm,ZS,he]
  cases gM e<;>cases (l.take k).contains e<;>rfl
theorem BM (l:List ae)(hl:iK o7 l):∀(n k:Nat),k+n=l.length→yI l (k:Int)=some (bif zm l n k then .inr () else .inl false)
 | 0,k,hk=>by
  have h1:=hl.1
  rw[Kr,nK]
  simp only[bQ]
  rw[decide_eq_false (by omega)]
  rfl
 | n+1,k,hk=>by
  have h1:=hl.1
  obtain⟨e,he⟩:∃e,l[k]?=some e:=⟨_,List.getElem?_eq_getElem (by omega)⟩
  rw[Kr,nK]
  simp only[bQ]
  rw[decide_eq_true (by omega)]
  simp only[cond_true,bX,he,Option.bind_some,qT e (hl.2 e (List.mem_of_getElem? he)),Ej (show k≤l.length by omega),yU _ e (show (l.take k).length≤1048576 by rw[List.length_take];omega)]
  rw[cV (by omega),BM l hl n (k+1) (by omega)]
  simp only[zm,ZS,he]
  cases gM e<;>cases (l.take k).contains e<;>rfl
def rK (l:List ae):Bool:=zm l l.length 0&&fg (len l) 2 4
theorem aaC (l:List ae)(cs:List Clause)(hl:iK o7 l):yF ⟨l,cs⟩=some (rK l):=by
 unfold yF rK
 have:=BV l cs hl l.length 0 (by omega)
 rw[show (0:Int)=((0:Nat):Int) by rfl,this]
 simp only[nj]
 cases zm l l.length 0<;>rfl
theorem aae (l:List ae)(hl:iK o7 l):Nw l=some (rK l):=by
 unfold Nw rK
 have:=BM l hl l.length 0 (by omega)
 rw[show (0:Int)=((0:Nat):Int) by rfl,this]
 simp only[ly]
 cases zm l l.length 0<;>rfl
def kI (cs:List Clause)(id:ae):Int:=match cs.findIdx? (fun e=>e.Id==id) with
 | some i=>(i:Int)
 | none=>-1
theorem K6 (c:Contract)(id:ae)(hl:c.Clauses.length≤1048576):wq c id=some (kI c.Clauses id):=by
 unfold wq kI
 rw[oV (L:=vp c id) (a:=c.Clauses) (p:=fun e=>some (e.Id==id)) (q:=fun e=>e.Id==id) (fun _ _=>rfl) (fun x=>by rw[RE,oJ]<;>rfl) (by omega)]
 cases c.Clauses.findIdx? (fun e=>e.Id==id)<;>rfl
theorem KJ (c:Contract)(id:ae)(hl:c.Clauses.length≤1048576):HU c id=some (kI c.Clauses id):=by
 unfold HU Jf kI
 rw[oV (L:=uR c.Clauses id) (a:=c.Clauses) (p:=fun e=>some (e.Id==id)) (q:=fun e=>e.Id==id) (fun _ _=>rfl) (fun x=>by rw[Rr,ot]<;>rfl) (by omega)]
 cases c.Clauses.findIdx? (fun e=>e.Id==id)<;>rfl
theorem QJ (cs:List Clause)(id:ae):kI cs id=-1∨∃j:Nat,kI cs id=(j:Int)∧j<cs.length:=by
 unfold kI
 cases h:cs.findIdx? (fun e=>e.Id==id) with
 | none=>exact .inl rfl
 | some j=>
  rw[List.findIdx?_eq_some_iff_getElem] at h
  exact .inr ⟨j,rfl,h.1⟩
def OI (cs:List Clause)(i:Int)(e:Clause):Bool:=match kI cs e.Repair with
 | .ofNat k=>match cs[k]? with
  | some e'=>((k:Int) != i)&&((e'.Kind==1)&&(e.Kind != 3))
  | none=>false
 | .negSucc _=>false
def ls (c:Contract)(i:Int)(e:Clause):Bool:=
 gM e.Id&&(gM e.Action&&(fg e.Kind 1 4&&(fg e.Party 0 (ac (len c.Parties - 1))&&(fg e.Other 0 (ac (len c.Parties - 1))&&(!(e.Party==e.Other)&&(rA e.When&&(fg e.Amount 0 1000000&&(fg e.Within 0 400&&(!(bif e.Kind != 1 then (bif e.Amount != 0 then true else e.Within != 0) else false) &&
  (bif e.Repair==[] then true else OI c.Clauses i e))))))))))
theorem aaD (c:Contract)(i:Int)(e:Clause)(hl:c.Clauses.length≤1048576):((wq c e.Repair).bind fun r8=>bd (ρ:=Bool) (bif (decide (r8≥0)) then (cj (ρ:=Bool) (bif (r8 != i) then ((aE c.Clauses r8).bind fun e11=>bU (bif (e11.Kind==1) then ((e.Kind != 3)) else (false)) fun u12:Bool=>some (.inr u12)) else (some (.inr false))) fun u10:Bool=>some (.inr u10)) else (some (.inr false))) fun u9:Bool=>some u9)=some (OI c.Clauses i e):=by
 rw[K6 c _ hl,Option.bind_some]
 unfold OI
 rcases QJ c.Clauses e.Repair with h | ⟨j,h,hj⟩
 ·rw[h];rfl
 ·rw[h,decide_eq_true (by omega),cond_true,bX,List.getElem?_eq_getElem hj,Option.bind_some]
  show _=some (match c.Clauses[j]? with | some e'=>_ | none=>false)
  rw[List.getElem?_eq_getElem hj]
  show _=some (((j:Int) != i)&&((c.Clauses[j].Kind==1)&&(e.Kind != 3)))
  cases ((j:Int) != i)<;>cases (c.Clauses[j].Kind==1)<;>rfl
theorem aaf (c:Contract)(i:Int)(e:Clause)(hl:c.Clauses.length≤1048576):((HU c e.Repair).bind fun r10=>bd (ρ:=Bool) (bif (e.Kind != 3) then (cj (ρ:=Bool) (bif (decide (r10≥0)) then (cj (ρ:=Bool) (bif (r10 != i) then ((aE c.Clauses r10).bind fun e14=>some (.inr (e14.Kind==1))) else (some (.inr false))) fun u13:Bool=>some (.inr u13)) else (some (.inr false))) fun u12:Bool=>some (.inr u12)) else (some (.inr false))) fun u11:Bool=>some u11)=some (OI c.Clauses i e):=by
 rw[KJ c _ hl,Option.bind_some]
 unfold OI
 rcases QJ c.Clauses e.Repair with h | ⟨j,h,hj⟩
 ·rw[h];cases (e.Kind != 3)<;>rfl
 ·rw[h,decide_eq_true (by omega),cond_true,bX,List.getElem?_eq_getElem hj,Option.bind_some]
  show _=some (match c.Clauses[j]? with | some e'=>_ | none=>false)
  rw[List.getElem?_eq_getElem hj]
  show _=some (((j:Int) != i)&&((c.Clauses[j].Kind==1)&&(e.Kind != 3)))
  cases ((j:Int) != i)<;>cases (c.Clauses[j].Kind==1)<;>cases (e.Kind != 3)<;>rfl
theorem Qf (c:Contract)(i:Int)(e:Clause)(he:aE c.Clauses i=some e)(hs:gR e)(hl:c.Clauses.length≤1048576):DA c i=some (ls c i e):=by
 unfold DA ls
 rw[he,Option.bind_some,aaD c i e hl]
 simp only[rd _ hs.1,rd _ hs.2.2.2.1,nj,Xz _ hs.2.2.2.2.2.2.1,Option.bind_some,eg]
 cases gM e.Id with | false=>rfl | true=>?_
 cases gM e.Action with | false=>rfl | true=>?_
 cases fg e.Kind 1 4 with | false=>rfl | true=>?_
 cases fg e.Party 0 (ac (len c.Parties - 1)) with | false=>rfl | true=>?_
 cases fg e.Other 0 (ac (len c.Parties - 1)) with | false=>rfl | true=>?_
 cases (e.Party==e.Other) with | true=>rfl | false=>?_
 cases rA e.When with | false=>rfl | true=>?_
 cases fg e.Amount 0 1000000 with | false=>rfl | true=>?_
 cases fg e.Within 0 400 with | false=>rfl | true=>?_
 cases (bif e.Kind != 1 then (bif e.Amount != 0 then true else e.Within != 0) else false) with | true=>rfl | false=>?_
 cases (e.Repair==([]:ae))<;>rfl
theorem P8 (c:Contract)(i:Int)(e:Clause)(he:aE c.Clauses i=some e)(hs:gR e)(hl:c.Clauses.length≤1048576):NA c i=some ((kI c.Clauses e.Id==i)&&ls c i e):=by
 unfold NA ls
 rw[he,Option.bind_some,aaf c i e hl]
 simp only[qT _ hs.1,qT _ hs.2.2.2.1,ly,W2 _ hs.2.2.2.2.2.2.1,Option.bind_some,eg,KJ c _ hl,bne]
 cases gM e.Id with | false=>cases (kI c.Clauses e.Id==i)<;>rfl | true=>?_
 cases (kI c.Clauses e.Id==i) with | false=>rfl | true=>?_
 cases gM e.Action with | false=>rfl | true=>?_
 cases fg e.Kind 1 4 with | false=>rfl | true=>?_
 cases fg e.Party 0 (ac (len c.Parties - 1)) with | false=>rfl | true=>?_
 cases fg e.Other 0 (ac (len c.Parties - 1)) with | false=>rfl | true=>?_
 cases (e.Party==e.Other) with | true=>rfl | false=>?_
 cases rA e.When with | false=>rfl | true=>?_
 cases fg e.Amount 0 1000000 with | false=>rfl | true=>?_
 cases fg e.Within 0 400 with | false=>rfl | true=>?_
 cases (bif !(e.Kind==1) then (bif !(e.Amount==0) then true else !(e.Within==0)) else false) with | true=>rfl | false=>?_
 cases (e.Repair==([]:ae))<;>rfl
def ui (c:Contract)(i:Nat):Bool:=match c.Clauses[i]? with
 | some e=>(kI c.Clauses e.Id==(i:Int))&&ls c (i:Int) e
 | none=>true
def jG (c:Contract):Bool:=!((List.range c.Clauses.length).any fun i=>!ui c i)
theorem sG {c:Contract}:jG c=true↔∀(i:Nat) e,c.Clauses[i]?=some e→kI c.Clauses e.Id=(i:Int)∧ls c (i:Int) e=true:=by
 unfold jG
 rw[Bool.not_eq_true',←Bool.not_eq_true,List.any_eq_true]
 constructor
 ·intro h i e he
  have hi:=(List.getElem?_eq_some_iff.1 he).1
  cases h1:ui c i with
  | false=>exact absurd ⟨i,List.mem_range.2 hi,by rw[h1];rfl⟩ h
  | true=>
   simp only[ui,he,Bool.and_eq_true,beq_iff_eq] at h1
   exact h1
 ·rintro h ⟨i,hi,h2⟩
  rw[List.mem_range] at hi
  have h1:=h i _ (List.getElem?_eq_getElem hi)
  simp only[ui,List.getElem?_eq_getElem hi,h1.1,h1.2,beq_self_eq_true,Bool.and_self,Bool.not_true] at h2
  cases h2
theorem OQ (c:Contract)(hc:fH c):mO c 0=some (bif jG c then .inr () else .inl false):=by
 have hl:c.Clauses.length≤1048576:=hc.2.1
 have h:=wA (a:=List.range c.Clauses.length) (q:=fun i=>!ui c i) (y0:=(Sum.inl false:Bool⊕Unit)) (y1:=.inr ()) (L:=fun i=>mO c (i:Int))
  (fun i x hx=>by
   obtain⟨hi,hx'⟩:=List.getElem?_eq_some_iff.1 hx
   rw[List.getElem_range] at hx'
   subst hx'
   rw[List.length_range] at hi
   have he:=List.getElem?_eq_getElem hi
   have hg:aE c.Clauses (i:Int)=some c.Clauses[i]:=by rw[bX,he]
   show mO c (i:Int)=_
   rw[Ho,mb,bQ,decide_eq_true hi,cond_true,hg,Option.bind_some,K6 c _ hl,Option.bind_some,Qf c _ _ hg (hc.2.2 _ (List.getElem_mem hi)) hl,cV (by omega)]
   simp only[ui,he,bne]
   cases (kI c.Clauses c.Clauses[i].Id==(i:Int))<;>cases ls c (i:Int) c.Clauses[i]<;>rfl)
  (by
   rw[List.length_range]
   show mO c (c.Clauses.length:Int)=_
   rw[Ho,mb,bQ,decide_eq_false (Nat.lt_irrefl _),cond_false])
 rw[show mO c 0=_ from h]
 unfold jG
 cases (List.range c.Clauses.length).any fun i=>!ui c i<;>rfl
theorem Oh (c:Contract)(hc:fH c):pb c 0=some (bif jG c then .inr () else .inl false):=by
 have hl:c.Clauses.length≤1048576:=hc.2.1
 have h:=wA (a:=List.range c.Clauses.length) (q:=fun i=>!ui c i) (y0:=(Sum.inl false:Bool⊕Unit)) (y1:=.inr ()) (L:=fun i=>pb c (i:Int))
  (fun i x hx=>by
   obtain⟨hi,hx'⟩:=List.getElem?_eq_some_iff.1 hx
   rw[List.getElem_range] at hx'
   subst hx'
   rw[List.length_range] at hi
   have he:=List.getElem?_eq_getElem hi
   have hg:aE c.Clauses (i:Int)=some c.Clauses[i]:=by rw[bX,he]
   show pb c (i:Int)=_
   rw[Ki,nJ,bQ,decide_eq_true hi,cond_true,P8 c _ _ hg (hc.2.2 _ (List.getElem_mem hi)) hl,Option.bind_some,cV (by omega)]
   simp only[ui,he])
  (by
   rw[List.length_range]
   show pb c (c.Clauses.length:Int)=_
   rw[Ki,nJ,bQ,decide_eq_false (Nat.lt_irrefl _),cond_false])
 rw[show pb c 0=_ from h]
 unfold jG
 cases (List.range c.Clauses.length).any fun i=>!ui c i<;>rfl
def kh (cs:List Clause):List ae:=cs.flatMap fun e=>e.Action::lf e.When
theorem NU {c:Contract}{i:Int}{e:Clause}(h:ls c i e=true):rA e.When=true:=by
 simp only[ls,Bool.and_eq_true] at h
 exact h.2.2.2.2.2.2.1
theorem ue (cs:List Clause)(i:Nat)(h:i<cs.length):kh (cs.take (i+1))=kh (cs.take i)++(cs[i].Action::lf cs[i].When):=by
 unfold kh
 rw[List.take_add_one,List.getElem?_eq_getElem h,List.flatMap_append]
 simp
theorem D7 (c:Contract)(hc:fH c)(h12:c.Clauses.length≤12)(hv:jG c=true):∃r,ri c=some r∧Bz c=some r∧r.Pairwise StrL.Lt∧(∀x,x∈r↔x∈kh c.Clauses)∧r.length≤1000:=by
 have hcond:∀i (hi:i<c.Clauses.length),gl c.Clauses[i].When=true∧bV c.Clauses[i].When≤15:=fun i hi=>by
  have h1:=NU (sG.1 hv i _ (List.getElem?_eq_getElem hi)).2
  unfold rA at h1
  rw[Bool.and_eq_true,decide_eq_true_iff] at h1
  exact h1
 have hs:∃r,ri c=some r∧r.Pairwise StrL.Lt∧(∀x,x∈r↔x∈kh c.Clauses)∧r.length≤16*c.Clauses.length:=by
  obtain⟨y,⟨r,rfl,hr⟩,h2⟩:=iz (L:=fun i (s:List ae)=>oK c ((i:Int),s)) c.Clauses.length
   (fun i s=>s.Pairwise StrL.Lt∧(∀x,x∈s↔x∈kh (c.Clauses.take i))∧s.length≤16*i)
   (fun y=>∃r,y=.inr r∧r.Pairwise StrL.Lt∧(∀x,x∈r↔x∈kh c.Clauses)∧r.length≤16*c.Clauses.length) (s:=[])
   (by
    rintro i s hi ⟨j1,j2,j3⟩
    have he:=List.getElem?_eq_getElem hi
    obtain⟨f1,f2⟩:=hcond i hi
    obtain⟨r1,e1,p1,m1,l1⟩:=StrL.put_val s c.Clauses[i].Action (by omega) j1
    obtain⟨r2,e2,p2,m2,l2⟩:=SL _ f1 r1 (by omega) p1
    refine .inl ⟨r2,⟨p2,fun x=>?_,by omega⟩,?_⟩
    ·rw[m2,m1,j2,ue _ _ hi,List.mem_append,List.mem_cons,or_assoc]
    ·show oK c ((i:Int),s)=_
     rw[Hr,md]
     simp only[bQ,decide_eq_true hi,cond_true,bX,he,Option.bind_some,e1,e2]
     rw[cV (by omega)])
   (by
    rintro s ⟨j1,j2,j3⟩
    rw[List.take_length] at j2
    refine⟨.inr s,⟨s,rfl,j1,j2,j3⟩,?_⟩
    show oK c ((c.Clauses.length:Int),s)=_
    rw[Hr,md]
    simp only[bQ,decide_eq_false (Nat.lt_irrefl _),cond_false]) ⟨List.Pairwise.nil,fun x=>by simp[kh],by simp⟩
  refine⟨r,?_,hr⟩
  unfold ri
  rw[show oK c (0,[])=some (.inr r) from h2]
  rfl
 obtain⟨r,e,p,m,l⟩:=hs
 refine⟨r,e,?_,p,m,by omega⟩
 obtain⟨y,h1,h2⟩:=iz (L:=fun i (s:List ae)=>qN c ((i:Int),s)) c.Clauses.length
  (fun i s=>s=kh (c.Clauses.take i)∧s.length≤16*i) (fun y=>y=.inr (kh c.Clauses)∧(kh c.Clauses).length≤16*c.Clauses.length) (s:=[])
  (by
   rintro i s hi ⟨j1,j2⟩
   have he:=List.getElem?_eq_getElem hi
   obtain⟨f1,f2⟩:=hcond i hi
   have hlen:=Iy c.Clauses[i].When
   refine .inl ⟨kh (c.Clauses.take (i+1)),⟨rfl,?_⟩,?_⟩
   ·rw[ue _ _ hi,←j1,List.length_append,List.length_cons];omega
   ·show qN c ((i:Int),s)=_
    rw[Ku,nM]
    simp only[bQ,decide_eq_true hi,cond_true,bX,he,Option.bind_some]
    rw[sD (by omega) (by omega),Option.bind_some,Sn _ _ (by rw[List.length_append,List.length_singleton];omega),Option.bind_some,cV (by omega),ue _ _ hi,←j1,List.append_assoc]
    try rfl)
  (by
   rintro s ⟨j1,j2⟩
   rw[List.take_length] at j1
   refine⟨_,⟨rfl,by rw[←j1];exact j2⟩,?_⟩
   show qN c ((c.Clauses.length:Int),s)=_
   rw[Ku,nM]
   simp only[bQ,decide_eq_false (Nat.lt_irrefl _),cond_false]
   rw[j1]) ⟨by simp[kh],by simp⟩
 unfold Bz
 rw[show qN c (0,[])=some y from h2,h1.1,ch,XS _ r (by omega) p m]
 rfl
noncomputable def po (c:Contract):Bool:=(fg (len c.Clauses) 1 12&&rK c.Parties)&&(jG c&&(match ri c with | some r=>decide (len r≤16) | none=>false))
theorem xr (c:Contract)(hc:fH c):DE c=some (po c):=by
 unfold DE po
 have hp:=aaC c.Parties c.Clauses hc.1
 rw[nj,show yF c=_ from hp,OQ c hc,Option.bind_some]
 cases h1:fg (len c.Clauses) 1 12 with | false=>rfl | true=>?_
 cases rK c.Parties with | false=>rfl | true=>?_
 cases h2:jG c with | false=>rfl | true=>?_
 rw[qh] at h1
 obtain⟨r,e,_⟩:=D7 c hc (by simp only[len] at h1;omega) h2
 rw[e]
 rfl
theorem xm (c:Contract)(hc:fH c):MU c=some (po c):=by
 unfold MU po
 rw[aae c.Parties hc.1,Oh c hc,Option.bind_some,ly]
 cases h1:fg (len c.Clauses) 1 12 with | false=>cases rK c.Parties<;>rfl | true=>?_
 cases rK c.Parties with | false=>rfl | true=>?_
 cases h2:jG c with | false=>rfl | true=>?_
 rw[qh] at h1
 obtain⟨r,e,e2,_⟩:=D7 c hc (by simp only[len] at h1;omega) h2
 rw[e,e2]
 rfl
theorem NW {c:Contract}(h:po c=true):1≤c.Clauses.length∧c.Clauses.length≤12∧rK c.Parties=true∧∀(i:Nat) e,c.Clauses[i]?=some e→kI c.Clauses e.Id=(i:Int)∧ls c (i:Int) e=true:=by
 simp only[po,Bool.and_eq_true,qh] at h
 obtain⟨⟨⟨h1,h2⟩,h3⟩,h4,_⟩:=h
 simp only[len] at h1 h2
 exact⟨by omega,by omega,h3,sG.1 h4⟩
theorem W6 {α:Type}(l:List α)(i:Int)(hl:l.length≤1048576):fg i 0 (ac (len l - 1))=(aE l i).isSome:=by
 unfold len
 rw[dW (by omega) (by omega)]
 unfold fg aE
 by_cases h0:0≤i
 ·rw[if_pos h0,decide_eq_true h0,Bool.true_and]
  by_cases h1:i≤(l.length:Int) - 1
  ·rw[decide_eq_true h1,List.getElem?_eq_getElem (by omega)];rfl
  ·rw[decide_eq_false h1,List.getElem?_eq_none (by omega)];rfl
 ·rw[if_neg h0,decide_eq_false h0];rfl
theorem Ig {α:Type}{L:Int→Option (Int⊕Unit)}{a:List α}{q:α→Bool}(h:L 0=some (match a.findIdx? q with | some i=>.inl (i:Int) | none=>.inr ())):((bd (ρ:=Int) (L 0) fun _:Unit=>some (-1)).bind fun r=>some (decide (r≥0)))=some (a.any q):=by
 rw[h]
 cases h1:a.findIdx? q with
 | none=>
  have:a.any q=false:=by
   rw[List.findIdx?_eq_none_iff] at h1
   rw[List.any_eq_false]
   intro x hx
   rw[h1 x hx]
   exact Bool.false_ne_true
  rw[this]
  rfl
 | some i=>
  have:a.any q=true:=by
   rw[List.findIdx?_eq_some_iff_getElem] at h1
   obtain⟨hi,he,_⟩:=h1
   rw[List.any_eq_true]
   exact⟨_,List.getElem_mem hi,he⟩
  rw[this]
  simp
def vI (l:List ae)(k:Nat):Bool:=match l[k]? with
 | some e=>gM e&&(match k with
  | 0=>true
  | j+1=>match l[j]? with
   | some p=>Op.bytesLess p e
   | none=>true)
 | none=>true
def px (l:List ae):Bool:=decide (l.length≤16) && !((List.range l.length).any fun k=>!vI l k)
theorem afj (a b:ae):(Op.bytesLess b a||b==a)=!Op.bytesLess a b:=by
 rcases StrL.tri a b with h | h | h
 ·have h2:Op.bytesLess b a=false:=Bool.eq_false_iff.2 fun h3=>StrL.Lt.asymm h h3
  have h3:(b==a)=false:=beq_eq_false_iff_ne.2 fun e=>StrL.Lt.ne h e.symm
  rw[h2,h3,show Op.bytesLess a b=true from h];rfl
 ·subst h
  rw[StrL.lt_irrefl,beq_self_eq_true];rfl
 ·have h2:Op.bytesLess a b=false:=Bool.eq_false_iff.2 fun h3=>StrL.Lt.asymm h h3
  rw[h2,show Op.bytesLess b a=true from h];rfl
theorem xt (l:List ae)(hl:iK o7 l)(k:Nat)(hk:k<l.length)(hk16:k≤16):jl l (k:Int)=bif !vI l k then some (.inl false) else jl l ((k+1:Nat):Int):=by
 have he:=List.getElem?_eq_getElem hk
 have hlen:l.length≤1048576:=hl.1
 rw[wj,kz,bQ,decide_eq_true hk,cond_true,decide_eq_true (by omega),eg,cond_true,bX,he,Option.bind_some,rd _ (hl.2 _ (List.getElem_mem hk)),Option.bind_some,cV (by omega)]
 cases k with
 | zero=>
  simp only[vI,he]
  cases gM l[0]<;>rfl
 | succ j=>
  have hj:j<l.length:=by omega
  rw[decide_eq_true (by omega),cond_true,show ac (((j+1:Nat):Int) - 1)=(j:Int) by rw[dW (by omega) (by omega)];omega,bX,List.getElem?_eq_getElem hj,Option.bind_some]
  simp only[vI,he,List.getElem?_eq_getElem hj,Option.bind_some]
  cases gM l[j+1]<;>cases Op.bytesLess l[j] l[j+1]<;>rfl
theorem La (l:List ae)(hl:iK o7 l)(k:Nat)(hk:k<l.length):pi l (k:Int)=bif !vI l k then some (.inl false) else pi l ((k+1:Nat):Int):=by
 have he:=List.getElem?_eq_getElem hk
 have hlen:l.length≤1048576:=hl.1
 rw[Kv,nN,bQ,decide_eq_true hk,cond_true,bX,he,Option.bind_some,qT _ (hl.2 _ (List.getElem_mem hk)),Option.bind_some,cV (by omega)]
 cases k with
 | zero=>
  simp only[vI,he]
  cases gM l[0]<;>rfl
 | succ j=>
  have hj:j<l.length:=by omega
  rw[decide_eq_true (by omega),cond_true,show ac (((j+1:Nat):Int) - 1)=(j:Int) by rw[dW (by omega) (by omega)];omega,bX,List.getElem?_eq_getElem hj,Option.bind_some,afj]
  simp only[vI,he,List.getElem?_eq_getElem hj]
  cases gM l[j+1]<;>cases Op.bytesLess l[j] l[j+1]<;>rfl
theorem qY {L:Nat→Option (Bool⊕Unit)}{n:Nat}{q:Nat→Bool}(hs:∀k,k<n→L k=bif q k then some (.inl false) else L (k+1))(he:L n=some (.inr ())):L 0=some (if (List.range n).any q then .inl false else .inr ()):=by
 refine wA (a:=List.range n) (q:=q) (y0:=(Sum.inl false:Bool⊕Unit)) (y1:=.inr ()) (L:=L) (fun i x hx=>?_) (by rw[List.length_range];exact he)
 obtain⟨hi,hx'⟩:=List.getElem?_eq_some_iff.1 hx
 rw[List.getElem_range] at hx'
 subst hx'
 rw[List.length_range] at hi
 exact hs i hi
theorem Sm (l:List ae)(hl:iK o7 l):NG l=some (px l):=by
 have hlen:l.length≤1048576:=hl.1
 have h:=qY (L:=fun k=>pi l (k:Int)) (n:=l.length) (q:=fun k=>!vI l k) (fun k hk=>La l hl k hk) (by
  show pi l (l.length:Int)=_
  rw[Kv,nN,bQ,decide_eq_false (Nat.lt_irrefl _),cond_false])
 unfold NG
 rw[show pi l 0=_ from h]
 unfold px
 have h16:decide (len l≤16)=decide (l.length≤16):=by
  have:(len l≤16)↔l.length≤16:=by unfold len;omega
  simp only[this]
 cases (List.range l.length).any fun k=>!vI l k<;>simp[h16]
theorem SJ (l:List ae)(hl:iK o7 l):Dq l=some (px l):=by
 have hlen:l.length≤1048576:=hl.1
 have h16:decide (len l≤16)=decide (l.length≤16):=by
  have:(len l≤16)↔l.length≤16:=by unfold len;omega
  simp only[this]
 unfold Dq
 by_cases hm:l.length≤16
 ·have h:=qY (L:=fun k=>jl l (k:Int)) (n:=l.length) (q:=fun k=>!vI l k) (fun k hk=>xt l hl k hk (by omega)) (by
   show jl l (l.length:Int)=_
   rw[wj,kz,bQ,decide_eq_false (Nat.lt_irrefl _),cond_false,eg,cond_false])
  rw[show jl l 0=_ from h]
  unfold px
  cases (List.range l.length).any fun k=>!vI l k<;>simp[h16]
 ·have h:=qY (L:=fun k=>jl l (k:Int)) (n:=17) (q:=fun k=>!vI l k) (fun k hk=>xt l hl k (by omega) (by omega)) (by
   show jl l ((17:Nat):Int)=_
   rw[wj,kz,bQ]
   by_cases h17:17<l.length
   ·rw[decide_eq_true h17];rfl
   ·rw[decide_eq_false h17];rfl)
  rw[show jl l 0=_ from h]
  unfold px
  rw[h16,decide_eq_false hm]
  cases (List.range 17).any fun k=>!vI l k<;>rfl
def yV (c:Contract)(i:ae):Bool:=c.Clauses.any fun x=>x.Repair==i
theorem aaB (c:Contract)(i:Int)(e:Clause)(he:aE c.Clauses i=some e)(hl:c.Clauses.length≤1048576):DC c i=some (yV c e.Id):=by
 unfold DC
 rw[zP (L:=vo c i) (a:=c.Clauses) (p:=fun x=>some (x.Repair==e.Id)) (q:=fun x=>x.Repair==e.Id) (r:=true) (fun _ _=>rfl) (fun x=>by rw[RD,oI];simp only[he,Option.bind_some]) (by omega)]
 unfold yV
 cases c.Clauses.any fun x=>x.Repair==e.Id<;>rfl
theorem aad (c:Contract)(i:Int)(e:Clause)(he:aE c.Clauses i=some e)(hl:c.Clauses.length≤1048576):ND c i=some (yV c e.Id):=by
 unfold ND Ja Jg
 rw[Ig (oV (L:=uS c.Clauses (c,i)) (a:=c.Clauses) (p:=fun x=>NE x c i) (q:=fun x=>x.Repair==e.Id) (fun x _=>by rw[NE,he];rfl) (fun x=>by rw[Rs,ou]) (by omega))]
 rfl
theorem aaA (s:State)(i:Int)(hl:s.Duties.length≤1048576):DH s i=some ((s.Duties.countP (fun d=>d.Clause==i):Nat):Int):=by
 unfold DH
 obtain⟨y,rfl,h⟩:=iz (L:=fun k (n:Int)=>mP s i (n,(k:Int))) s.Duties.length (fun k n=>n=(((s.Duties.take k).countP (fun d=>d.Clause==i):Nat):Int)) (fun y=>y=.inr ((s.Duties.countP (fun d=>d.Clause==i):Nat):Int)) (s:=0)
  (by
   rintro k n hk rfl
   have hx:=List.getElem?_eq_getElem hk
   refine .inl ⟨_,rfl,?_⟩
   show mP s i (_,(k:Int))=mP s i (_,((k+1:Nat):Int))
   rw[Hz,mf]
   simp only[bQ,decide_eq_true hk,cond_true,bX,hx,Option.bind_some,eg]
   rw[show ac ((k:Int)+1)=((k+1:Nat):Int) from cV (by omega)]
   have h1:(s.Duties.take (k+1)).countP (fun d=>d.Clause==i)=(s.Duties.take k).countP (fun d=>d.Clause==i)+if (s.Duties[k].Clause==i)=true then 1 else 0:=by
    rw[List.take_add_one,hx,List.countP_append,Option.toList_some,List.countP_singleton]
   have h2:=List.countP_le_length (l:=s.Duties.take k) (p:=fun d=>d.Clause==i)
   rw[List.length_take] at h2
   rw[h1]
   cases h3:s.Duties[k].Clause==i with
   | false=>simp
   | true=>rw[cond_true,dW (by omega) (by omega)];simp)
  (by
   rintro n rfl
   refine⟨_,rfl,?_⟩
   show mP s i (_,(s.Duties.length:Int))=_
   rw[Hz,mf]
   simp only[bQ,decide_eq_false (Nat.lt_irrefl _),cond_false,List.take_length]) (by simp)
 rw[show mP s i (0,0)=_ from h]
 rfl
def rL (D:List Duty)(k:Nat)(d:Duty):Bool:=match k with
 | 0=>false
 | j+1=>match D[j]? with
  | some p=>decide (p.Since>d.Since)
  | none=>false
def nH (s:State)(d:Duty):Bool:=bif d.Status==1 then (decide (d.Due≥s.Day) && !s.Over) else bif d.Status==2 then true else bif d.Status==3 then decide (d.Due<s.Day) else bif d.Status==4 then s.Over else false
def clB (s:State)(d:Duty)(e:Clause):Bool:=(e.Kind==1)&&(fg d.Since 0 s.Day&&((d.Due==ac (d.Since+e.Within))&&fg d.Due 0 36524))
def wD (c:Contract)(s:State)(k:Nat)(d:Duty):Bool:=match aE c.Clauses d.Clause with
 | some e=>clB s d e&&(!rL s.Duties k d&&nH s d)
 | none=>false
def wE (c:Contract)(i:Int):Bool:=match aE c.Clauses i with
 | some e=>yV c e.Id
 | none=>false
theorem agz {s:State}{d:Duty}(h:nH s d=true):fg d.Status 1 4=true:=by
 unfold nH at h
 rw[qh]
 cases h1:d.Status==1 with
 | true=>have:=eq_of_beq h1;omega
 | false=>
  cases h2:d.Status==2 with
  | true=>have:=eq_of_beq h2;omega
  | false=>
   cases h3:d.Status==3 with
   | true=>have:=eq_of_beq h3;omega
   | false=>
    cases h4:d.Status==4 with
    | true=>have:=eq_of_beq h4;omega
    | false=>rw[h1,h2,h3,h4] at h;cases h
theorem afx (s:State)(d:Duty)(h:fg d.Status 1 4=true):(bif d.Status==1 then (bif decide (d.Due<s.Day) then true else (bif s.Over then true else (bif d.Status==3 then (bif decide (d.Due≥s.Day) then true else (bif d.Status==4 then !s.Over else false)) else (bif d.Status==4 then !s.Over else false)))) else (bif d.Status==3 then (bif decide (d.Due≥s.Day) then true else (bif d.Status==4 then !s.Over else false)) else (bif d.Status==4 then !s.Over else false)))=!nH s d:=by
 rw[qh] at h
 unfold nH
 have hd:decide (d.Due≥s.Day)=!decide (d.Due<s.Day):=by
  by_cases h2:d.Due<s.Day
  ·rw[decide_eq_true h2,decide_eq_false (by omega)];rfl
  ·rw[decide_eq_false h2,decide_eq_true (by omega)];rfl
 rw[hd]
 generalize decide (d.Due<s.Day)=x
 have h4:d.Status=1∨d.Status=2∨d.Status=3∨d.Status=4:=by omega
 rcases h4 with h4 | h4 | h4 | h4<;>rw[h4]<;>cases x<;>cases s.Over<;>rfl
theorem XA (c:Contract)(s:State)(k:Nat)(hk:k<s.Duties.length)(hl:s.Duties.length≤1048576)(hc:c.Clauses.length≤1048576) :
  DJ c s (k:Int)=some (wD c s k s.Duties[k]&&(wE c s.Duties[k].Clause||s.Duties.countP (fun d=>d.Clause==s.Duties[k].Clause)==1)):=by
 have he:=List.getElem?_eq_getElem hk
 unfold DJ
 rw[bX,he,Option.bind_some]
 have hp:∀(f:Bool→Option (Bool⊕Bool)) (g:Duty→Option (Bool⊕Bool)) ,(∀p,g p=f (decide (p.Since>s.Duties[k].Since)))→(bif decide ((k:Int)>0) then ((aE s.Duties (ac ((k:Int) - 1))).bind g) else f false)=f (rL s.Duties k s.Duties[k]):=by
  intro f g hg
  cases k with
  | zero=>rfl
  | succ j=>
   have hj:j<s.Duties.length:=by omega
   rw[decide_eq_true (by omega),cond_true,show ac (((j+1:Nat):Int) - 1)=(j:Int) by rw[dW (by omega) (by omega)];omega,bX,List.getElem?_eq_getElem hj,Option.bind_some,hg]
   simp only[rL,List.getElem?_eq_getElem hj]
 generalize s.Duties[k]=d at *
 rw[nj,Option.bind_some,W6 _ _ hc]
 unfold wD
 cases hg:aE c.Clauses d.Clause with
 | none=>rfl
 | some e=>
  rw[Option.isSome_some]
  simp only[Bool.not_true,cond_false,Option.bind_some,nj,pW]
  unfold clB
  cases h1:e.Kind==1 with
  | false=>rw[bne,h1];rfl
  | true=>
   rw[bne,h1]
   cases h2:fg d.Since 0 s.Day with
   | false=>rfl
   | true=>
    cases h3:d.Due==ac (d.Since+e.Within) with
    | false=>rw[bne,h3];rfl
    | true=>
     rw[bne,h3]
     cases h4:fg d.Due 0 36524 with
     | false=>rfl
     | true=>
      cases h5:fg d.Status 1 4 with
      | false=>
       have:nH s d=false:=Bool.eq_false_iff.2 fun h=>by rw[agz h] at h5;cases h5
       rw[this]
       simp
      | true=>
       simp only[Bool.not_true,cond_false,eL,ch,eg,afx s d h5]
       rw[show (bif decide ((k:Int)>0) then (aE s.Duties (ac ((k:Int) - 1))).bind (fun e11=>(some (.inr (bif decide (e11.Since>d.Since) then true else !nH s d)):Option (Bool⊕Bool))) else some (.inr (!nH s d)))=some (.inr (bif rL s.Duties k d then true else !nH s d)) from hp (fun b=>some (.inr (bif b then true else !nH s d))) _ (fun p=>rfl)]
       rw[ch]
       rw[show wE c d.Clause=yV c e.Id by unfold wE;rw[hg],aaB c _ e hg hc,aaA s _ hl]
       have hcn:∀n:Nat,((n:Int)==1)=(n==1):=fun n=>by
        by_cases h:n=1
        ·subst h;rfl
        ·rw[beq_eq_false_iff_ne.2 h,beq_eq_false_iff_ne.2 (by omega)]
       simp only[Option.bind_some,hcn]
       generalize (List.countP (fun d_1=>d_1.Clause==d.Clause) s.Duties==1)=z
       cases rL s.Duties k d<;>cases nH s d<;>cases yV c e.Id<;>cases z<;>rfl
def tA (D:List Duty)(k:Nat)(i:Int):Bool:=(D.take k).any fun o=>o.Clause==i
theorem W3 (c:Contract)(s:State)(k:Nat)(hk:k<s.Duties.length)(hl:s.Duties.length≤1048576)(hc:c.Clauses.length≤1048576) :
  NF c s (k:Int)=some (wD c s k s.Duties[k]&&(wE c s.Duties[k].Clause || !tA s.Duties k s.Duties[k].Clause)):=by
 have he:=List.getElem?_eq_getElem hk
 unfold NF
 rw[bX,he,Option.bind_some]
 have hp:∀(f:Bool→Option (Bool⊕Bool)) (g:Duty→Option (Bool⊕Bool)) ,(∀p,g p=f (decide (p.Since>s.Duties[k].Since)))→(bif decide ((k:Int)>0) then ((aE s.Duties (ac ((k:Int) - 1))).bind g) else f false)=f (rL s.Duties k s.Duties[k]):=by
  intro f g hg
  cases k with
  | zero=>rfl
  | succ j=>
   have hj:j<s.Duties.length:=by omega
   rw[decide_eq_true (by omega),cond_true,show ac (((j+1:Nat):Int) - 1)=(j:Int) by rw[dW (by omega) (by omega)];omega,bX,List.getElem?_eq_getElem hj,Option.bind_some,hg]
   simp only[rL,List.getElem?_eq_getElem hj]
 generalize s.Duties[k]=d at *
 rw[ly,Option.bind_some,W6 _ _ hc]
 unfold wD
 cases hg:aE c.Clauses d.Clause with
 | none=>rfl
 | some e=>
  rw[Option.isSome_some]
  simp only[Bool.not_true,cond_false,Option.bind_some,ly,oP]
  unfold clB
  cases h1:e.Kind==1 with
  | false=>rw[bne,h1];rfl
  | true=>
   rw[bne,h1]
   cases h2:fg d.Since 0 s.Day with
   | false=>rfl
   | true=>
    cases h3:d.Due==ac (d.Since+e.Within) with
    | false=>rw[bne,h3];rfl
    | true=>
     rw[bne,h3]
     cases h4:fg d.Due 0 36524 with
     | false=>rfl
     | true=>
      simp only[Bool.not_true,cond_false,eL,ch]
      rw[show (bif decide ((k:Int)>0) then (aE s.Duties (ac ((k:Int) - 1))).bind (fun e17=>(some (.inr (decide (d.Since<e17.Since))):Option (Bool⊕Bool))) else some (.inr false))=some (.inr (rL s.Duties k d)) from hp (fun b=>some (.inr b)) _ (fun p=>rfl)]
      simp only[eL,ch]
      cases rL s.Duties k d with
      | true=>rfl
      | false=>
       rw[cond_false,aad c _ e hg hc,Option.bind_some,Ej (by omega),Option.bind_some]
       unfold Jb Jh
       rw[Ig (oV (L:=uT (s.Duties.take k) d) (a:=s.Duties.take k) (p:=fun x=>QB x d) (q:=fun o=>o.Clause==d.Clause) (fun x _=>rfl) (fun x=>by rw[Rt,ov]) (by rw[List.length_take];omega))]
       rw[show wE c d.Clause=yV c e.Id by unfold wE;rw[hg]]
       unfold tA nH
       cases yV c e.Id<;>cases ((s.Duties.take k).any fun o=>o.Clause==d.Clause)<;>cases (d.Status==1)<;>cases (d.Status==2)<;>cases (d.Status==3)<;>cases (d.Status==4)<;>cases s.Over<;>cases decide (d.Due≥s.Day)<;>cases decide (d.Due<s.Day)<;>rfl
def qC (c:Contract)(s:State)(k:Nat):Bool:=match s.Duties[k]? with
 | some d=>wD c s k d&&(wE c d.Clause||s.Duties.countP (fun o=>o.Clause==d.Clause)==1)
 | none=>true
def rD (c:Contract)(s:State)(k:Nat):Bool:=match s.Duties[k]? with
 | some d=>wD c s k d&&(wE c d.Clause || !tA s.Duties k d.Clause)
 | none=>true
theorem KB (D:List Duty)(k:Nat)(hk:k<D.length)(p:Duty→Bool):D.countP p=(D.take k).countP p+((if p D[k]=true then 1 else 0)+(D.drop (k+1)).countP p):=by
 conv=>lhs;rw[←List.take_append_drop k D,List.drop_eq_getElem_cons hk]
 rw[List.countP_append,List.countP_cons]
 omega
theorem WO (c:Contract)(s:State):((List.range s.Duties.length).any fun k=>!qC c s k)=((List.range s.Duties.length).any fun k=>!rD c s k):=by
 have key:(∀k,k<s.Duties.length→qC c s k=true)↔(∀k,k<s.Duties.length→rD c s k=true):=by
  constructor
  ·intro h k hk
   have h1:=h k hk
   unfold qC at h1
   unfold rD
   rw[List.getElem?_eq_getElem hk] at h1 ⊢
   simp only[Bool.and_eq_true,Bool.or_eq_true,beq_iff_eq] at h1 ⊢
   refine⟨h1.1,h1.2.imp id fun h2=>?_⟩
   have h3:=KB s.Duties k hk (fun o=>o.Clause==s.Duties[k].Clause)
   rw[if_pos (by simp),h2] at h3
   have h4:(s.Duties.take k).countP (fun o=>o.Clause==s.Duties[k].Clause)=0:=by omega
   rw[List.countP_eq_zero] at h4
   rw[Bool.not_eq_true',tA,List.any_eq_false]
   exact h4
  ·intro h k hk
   have h1:=h k hk
   unfold rD at h1
   unfold qC
   rw[List.getElem?_eq_getElem hk] at h1 ⊢
   simp only[Bool.and_eq_true,Bool.or_eq_true,beq_iff_eq] at h1 ⊢
   refine⟨h1.1,?_⟩
   cases hd:wE c s.Duties[k].Clause with
   | true=>exact .inl rfl
   | false=>
    refine .inr ?_
    have h2:tA s.Duties k s.Duties[k].Clause=false:=by
     rcases h1.2 with h2 | h2
     ·rw[hd] at h2;cases h2
     ·simpa using h2
    rw[KB s.Duties k hk (fun o=>o.Clause==s.Duties[k].Clause),if_pos (by simp)]
    have e1:(s.Duties.take k).countP (fun o=>o.Clause==s.Duties[k].Clause)=0:=by
     rw[List.countP_eq_zero]
     rw[tA,List.any_eq_false] at h2
     exact h2
    have e2:(s.Duties.drop (k+1)).countP (fun o=>o.Clause==s.Duties[k].Clause)=0:=by
     rw[List.countP_eq_zero]
     intro x hx hq
     obtain⟨j,hj,rfl⟩:=List.mem_iff_getElem.1 hx
     rw[List.length_drop] at hj
     rw[List.getElem_drop] at hq
     have h5:=h (k+1+j) (by omega)
     unfold rD at h5
     rw[List.getElem?_eq_getElem (by omega)] at h5
     simp only[Bool.and_eq_true,Bool.or_eq_true] at h5
     rw[beq_iff_eq] at hq
     rw[hq,hd] at h5
     have h6:tA s.Duties (k+1+j) s.Duties[k].Clause=true:=by
      rw[tA,List.any_eq_true]
      refine⟨s.Duties[k],?_,by simp⟩
      rw[List.mem_iff_getElem]
      exact⟨k,by rw[List.length_take];omega,by rw[List.getElem_take]⟩
     rw[h6] at h5
     simp at h5
    omega
 rw[Bool.eq_iff_iff,List.any_eq_true,List.any_eq_true]
 have k2:=not_congr key
 simp only[Classical.not_forall] at k2
 simp only[List.mem_range,Bool.not_eq_true']
 constructor
 ·rintro⟨k,hk,hq⟩
  obtain⟨j,hj,hq2⟩:=k2.1 ⟨k,hk,by simp[hq]⟩
  exact⟨j,hj,by simpa using hq2⟩
 ·rintro⟨k,hk,hq⟩
  obtain⟨j,hj,hq2⟩:=k2.2 ⟨k,hk,by simp[hq]⟩
  exact⟨j,hj,by simpa using hq2⟩
def wz (x:Int):Bool:=fg x (-1000000000) 1000000000
theorem afz (l:List Int)(hl:l.length≤1048576):∃v,wi l=some v∧xy l=some v:=by
 have h:∃v,ln l (0,0)=some (.inr v):=by
  obtain⟨y,⟨v,rfl⟩,h⟩:=iz (L:=fun k (n:Int)=>ln l (n,(k:Int))) l.length (fun k n=>True) (fun y=>∃v,y=.inr v) (s:=0)
   (by
    intro k n hk _
    refine .inl ⟨ac (n+l[k]),trivial,?_⟩
    show ln l (_,(k:Int))=ln l (_,((k+1:Nat):Int))
    rw[GO,l6]
    simp only[bQ,decide_eq_true hk,cond_true,bX,List.getElem?_eq_getElem hk,Option.bind_some]
    rw[show ac ((k:Int)+1)=((k+1:Nat):Int) from cV (by omega)])
   (by
    intro n _
    refine⟨.inr n,⟨n,rfl⟩,?_⟩
    show ln l (_,(l.length:Int))=_
    rw[GO,l6]
    simp only[bQ,decide_eq_false (Nat.lt_irrefl _),cond_false]) trivial
  exact⟨v,h⟩
 obtain⟨v,h⟩:=h
 refine⟨v,?_,?_⟩
 ·unfold wi;rw[h];rfl
 ·unfold xy;rw[show I6 l (0,0)=ln l (0,0) from rfl,h];rfl
structure StF (c:Contract) (s:State) (names:List ae):Prop where
 day:fg s.Day 0 36524=true
 facts:px s.Facts=true
 sub:s.Facts.all (fun f=>names.contains f)=true
 dl:s.Duties.length≤24
 bl:s.Balances.length=c.Parties.length
 dut:∀k,k<s.Duties.length→qC c s k=true
 amt:s.Balances.all wz=true
 sum:wi s.Balances=some 0
noncomputable def zx (c:Contract)(s:State)(names:List ae)(v:Int):Bool:=
 fg s.Day 0 36524&&(px s.Facts&&(decide (s.Duties.length≤24)&&((s.Balances.length==c.Parties.length)&&(s.Facts.all (fun f=>names.contains f)&&(!((List.range s.Duties.length).any fun k=>!qC c s k)&&(s.Balances.all wz&&v==0))))))
theorem SM (c:Contract)(s:State)(hc:fH c)(hs:mE s)(hb:po c=true){names:List ae}(hn:ri c=some names)(hnl:names.length≤1048576){v:Int}(hv:wi s.Balances=some v):wu c s=some (zx c s names v):=by
 have hdl:s.Duties.length≤1048576:=hs.2.2.1.1
 have hbl:s.Balances.length≤1048576:=hs.2.2.2.1.1
 have hfl:s.Facts.length≤1048576:=hs.2.1.1
 have hcl:c.Clauses.length≤1048576:=hc.2.1
 unfold wu zx
 rw[xr c hc,Option.bind_some,hb]
 simp only[Bool.not_true,cond_false]
 rw[show pW s.Day=some (fg s.Day 0 36524) by unfold pW;rw[nj];rfl,Option.bind_some]
 cases fg s.Day 0 36524 with
 | false=>rfl
 | true=>
  simp only[Bool.not_true,cond_false]
  rw[SJ _ hs.2.1,Option.bind_some]
  cases px s.Facts with
  | false=>rfl
  | true=>
   simp only[Bool.not_true,cond_false,eg]
   have h24:decide (len s.Duties>24)=!decide (s.Duties.length≤24):=by
    by_cases h:s.Duties.length≤24
    ·rw[decide_eq_true h,decide_eq_false (by unfold len;omega)];rfl
    ·rw[decide_eq_false h,decide_eq_true (by unfold len;omega)];rfl
   rw[h24]
   cases decide (s.Duties.length≤24) with
   | false=>rfl
   | true=>
    have hbe:(len s.Balances != len c.Parties)=!(s.Balances.length==c.Parties.length):=by
     unfold len
     by_cases h:s.Balances.length=c.Parties.length
     ·rw[h,bne,beq_self_eq_true,beq_self_eq_true]
     ·rw[bne,beq_eq_false_iff_ne.2 h,beq_eq_false_iff_ne.2 (by omega)]
    simp only[Bool.not_true,cond_false]
    rw[hbe]
    cases s.Balances.length==c.Parties.length with
    | false=>rfl
    | true=>
     simp only[Bool.not_true,cond_false,eL,ch]
     rw[hn,Option.bind_some]
     rw[JL (L:=vu c s names) (a:=s.Facts) (f:=fun e=>wl names e) (p:=fun f=>names.contains f) (fun x _=>QQ names x hnl) (fun x=>by rw[RF,oL]) (by omega)]
     cases s.Facts.all (fun f=>names.contains f) with
     | false=>rfl
     | true=>
      rw[if_pos rfl,ch]
      have h:=qY (L:=fun k=>oM c s (k:Int)) (n:=s.Duties.length) (q:=fun k=>!qC c s k) (fun k hk=>by
       show oM c s (k:Int)=_
       rw[HE,mg,bQ,decide_eq_true hk,cond_true,XA c s k hk hdl hcl,Option.bind_some,cV (by omega)]
       unfold qC
       rw[List.getElem?_eq_getElem hk]) (by
       show oM c s (s.Duties.length:Int)=_
       rw[HE,mg,bQ,decide_eq_false (Nat.lt_irrefl _),cond_false])
      rw[show oM c s 0=_ from h]
      cases (List.range s.Duties.length).any fun k=>!qC c s k with
      | true=>rfl
      | false=>
       rw[if_neg Bool.false_ne_true,ch]
       rw[JL (L:=vv c s) (a:=s.Balances) (f:=Dm) (p:=wz) (fun x _=>by unfold Dm;rw[nj];rfl) (fun x=>by rw[RG,oO]) (by omega)]
       cases s.Balances.all wz with
       | false=>rfl
       | true=>
        rw[if_pos rfl,ch,hv]
        rfl
theorem So (c:Contract)(s:State)(hc:fH c)(hs:mE s){names:List ae}(hn:Bz c=some names)(hnl:names.length≤1048576){v:Int}(hv:xy s.Balances=some v):NH c s=some (zx c s names v):=by
 have hdl:s.Duties.length≤1048576:=hs.2.2.1.1
 have hbl:s.Balances.length≤1048576:=hs.2.2.2.1.1
 have hfl:s.Facts.length≤1048576:=hs.2.1.1
 have hcl:c.Clauses.length≤1048576:=hc.2.1
 unfold NH zx
 rw[hn,Option.bind_some]
 rw[show oP s.Day=some (fg s.Day 0 36524) by unfold oP;rw[ly];rfl,Option.bind_some]
 cases fg s.Day 0 36524 with
 | false=>rfl
 | true=>
  simp only[Bool.not_true,cond_false]
  rw[Sm _ hs.2.1,Option.bind_some]
  cases px s.Facts with
  | false=>rfl
  | true=>
   simp only[Bool.not_true,cond_false]
   unfold Jd Jj
   rw[Ig (oV (L:=uV s.Facts names) (a:=s.Facts) (p:=fun x=>NI x names) (q:=fun f=>!names.contains f) (fun x _=>by rw[NI,yU names x hnl];rfl) (fun x=>by rw[Rv,ox]) (by omega))]
   have ha:(s.Facts.any fun f=>!names.contains f)=!(s.Facts.all fun f=>names.contains f):=by rw[List.not_all_eq_any_not]
   rw[ha,Option.bind_some]
   have h24:decide (len s.Duties>24)=!decide (s.Duties.length≤24):=by
    by_cases h:s.Duties.length≤24
    ·rw[decide_eq_true h,decide_eq_false (by unfold len;omega)];rfl
    ·rw[decide_eq_false h,decide_eq_true (by unfold len;omega)];rfl
   have hbe:(len s.Balances != len c.Parties)=!(s.Balances.length==c.Parties.length):=by
    unfold len
    by_cases h:s.Balances.length=c.Parties.length
    ·rw[h,bne,beq_self_eq_true,beq_self_eq_true]
    ·rw[bne,beq_eq_false_iff_ne.2 h,beq_eq_false_iff_ne.2 (by omega)]
   rw[h24,hbe]
   cases s.Facts.all (fun f=>names.contains f) with
   | false=>cases decide (s.Duties.length≤24)<;>cases s.Balances.length==c.Parties.length<;>rfl
   | true=>
    simp only[Bool.not_true,eL,ch,cond_false]
    cases decide (s.Duties.length≤24) with
    | false=>rfl
    | true=>
     cases s.Balances.length==c.Parties.length with
     | false=>rfl
     | true=>
      simp only[Bool.not_true,cond_false,eL,ch,hv,Option.bind_some]
      have h:=qY (L:=fun k=>qO c s (k:Int)) (n:=s.Duties.length) (q:=fun k=>!rD c s k) (fun k hk=>by
       show qO c s (k:Int)=_
       rw[Kw,nO,bQ,decide_eq_true hk,cond_true,W3 c s k hk hdl hcl,Option.bind_some,cV (by omega)]
       unfold rD
       rw[List.getElem?_eq_getElem hk]) (by
       show qO c s (s.Duties.length:Int)=_
       rw[Kw,nO,bQ,decide_eq_false (Nat.lt_irrefl _),cond_false])
      rw[show qO c s 0=_ from h,WO]
      unfold Jc Ji
      rw[Ig (oV (L:=uU s.Balances ()) (a:=s.Balances) (p:=fun x=>B0 x) (q:=fun b=>!wz b) (fun x _=>by rw[B0,QA,ly];rfl) (fun x=>by rw[Ru,ow]) (by omega))]
      have hb2:(s.Balances.any fun b=>!wz b)=!(s.Balances.all wz):=by rw[List.not_all_eq_any_not]
      rw[hb2]
      cases hv0:v==0 with
      | false=>
       rw[bne,hv0]
       cases (List.range s.Duties.length).any fun k=>!rD c s k<;>cases s.Balances.all wz<;>rfl
      | true=>
       rw[bne,hv0]
       cases (List.range s.Duties.length).any fun k=>!rD c s k<;>cases s.Balances.all wz<;>rfl
theorem afy (c:Contract)(s:State)(hc:fH c)(hs:mE s):∃b,wu c s=some b∧Ko c s=some b∧(b=true→po c=true∧∃names,ri c=some names∧Bz c=some names∧StF c s names):=by
 cases hb:po c with
 | false=>
  refine⟨false,?_,?_,by simp⟩
  ·unfold wu;rw[xr c hc,Option.bind_some,hb];rfl
  ·unfold Ko;rw[xm c hc,Option.bind_some,hb];rfl
 | true=>
  obtain⟨f1,f2,f3,f4⟩:=NW hb
  obtain⟨names,n1,n2,n3,n4⟩:=D7 c hc f2 (sG.2 f4)
  obtain⟨v,v1,v2⟩:=afz s.Balances hs.2.2.2.1.1
  have hnl:names.length≤1048576:=Nat.le_trans n4.2 (by decide)
  refine⟨_,SM c s hc hs hb n1 hnl v1,?_,fun h=>⟨rfl,names,n1,n2,?_⟩⟩
  ·unfold Ko
   rw[xm c hc,Option.bind_some,hb,cond_true,So c s hc hs n2 hnl v2]
   rfl
  ·unfold zx at h
   simp only[Bool.and_eq_true,decide_eq_true_eq,beq_iff_eq,Bool.not_eq_true'] at h
   obtain⟨g1,g2,g3,g4,g5,g6,g7,g8⟩:=h
   refine⟨g1,g2,g5,g3,g4,fun k hk=>?_,g7,by rw[v1,g8]⟩
   rw[List.any_eq_false] at g6
   have:=g6 k (List.mem_range.2 hk)
   simpa using this
def jz (p:Nat→Bool):Nat→List Int
 | 0=>[]
 | n+1=>jz p n++(bif p n then [(n:Int)] else [])
theorem zn (p:Nat→Bool):∀n,(jz p n).length≤n
 | 0=>Nat.le_refl _
 | n+1=>by
  have:=zn p n
  rw[jz,List.length_append]
  cases p n<;>simp<;>omega
theorem aas {ρ:Type}{L:Nat→List Int→Option (ρ⊕List Int)}(n:Nat)(hn:n≤1048576)(p:Nat→Bool)(hS:∀i out,i<n→out.length≤i→L i out=bif p i then ((iX 8 out [(i:Int)]).bind fun a=>L (i+1) a) else L (i+1) out)(hE:∀out,L n out=some (.inr out)):L 0 []=some (.inr (jz p n)):=by
 obtain⟨y,h1,h2⟩:=iz (L:=L) n (fun i s=>s=jz p i) (fun y=>y=.inr (jz p n)) (s:=[])
  (by
   rintro i s hi rfl
   have hl:=zn p i
   refine .inl ⟨jz p (i+1),rfl,?_⟩
   rw[hS i _ hi hl,jz]
   cases p i with
   | true=>rw[cond_true,sD (by omega) (by omega)];rfl
   | false=>rw[cond_false,cond_false,List.append_nil])
  (by rintro s rfl;exact⟨_,rfl,hE _⟩) rfl
 rw[h2,h1]
namespace Sy
def mk (n:Nat)(A:Nat→Int):List Int:=(List.range n).map A
theorem dG {n:Nat}{A:Nat→Int}:(mk n A).length=n:=by simp[mk]
theorem vF {n k:Nat}{A:Nat→Int}(h:k<n):(mk n A)[k]?=some (A k):=by simp[mk,h]
theorem iH {n k:Nat}{A:Nat→Int}(h:k<n):aE (mk n A) (k:Int)=some (A k):=by rw[bX,vF h]
theorem jN {n:Nat}{A B:Nat→Int}(h:∀k,k<n→A k=B k):mk n A=mk n B:=by
 unfold mk
 exact List.map_congr_left fun k hk=>h k (List.mem_range.1 hk)
theorem Ae {n i:Nat}{A:Nat→Int}{v:Int}:bI (mk n A) (i:Int) v=mk n (fun k=>if k=i then v else A k):=by
 rw[mB]
 apply List.ext_getElem?
 intro k
 rw[List.getElem?_set]
 by_cases hk:k<n
 ·rw[dG,vF hk,vF hk]
  by_cases h:i=k
  ·subst h;simp[hk]
  ·simp[h,Ne.symm h]
 ·rw[List.getElem?_eq_none (by rw[dG];omega),List.getElem?_eq_none (by rw[dG];omega)]
  split
  ·split
   ·rename_i h1 h2;rw[dG] at h2;omega
   ·rfl
  ·rfl
theorem Xg {n:Nat}{A:Nat→Int}{x:Int}:x∈mk n A↔∃k,k<n∧A k=x:=by simp[mk]
def zy (A:Nat→Int)(a b l:Nat)(k:Nat):Int:=if a≤k∧k<a+l then A (k - a+b) else if b≤k∧k<b+l then A (k - b+a) else A k
def vN (A:Nat→Int)(a m b:Nat)(k:Nat):Int:=if a≤k∧k<a+(b - m) then A (k - a+m) else if a+(b - m)≤k∧k<b then A (k - (a+(b - m))+a) else A k
theorem qo {x y:Nat}(h:x+y≤1000000000):ac ((x:Int)+(y:Int))=((x+y:Nat):Int):=by rw[dW (by omega) (by omega)];omega
theorem eZ {x y:Nat}(h:y≤x)(h2:x≤1000000000):ac ((x:Int) - (y:Int))=((x - y:Nat):Int):=by rw[dW (by omega) (by omega)];omega
theorem nX {x:Nat}(h:x≤1000000000):ac ((x:Int)+1)=((x+1:Nat):Int):=by rw[dW (by omega) (by omega)];omega
theorem qq {x:Nat}(h0:1≤x)(h:x≤1000000000):ac ((x:Int) - 1)=((x - 1:Nat):Int):=by rw[dW (by omega) (by omega)];omega
theorem zb {x y:Nat}(h:x+y≤1000000000):IntKind.i64.wrap (ek .u64 (IntKind.u64.wrap (ac ((x:Int)+(y:Int)))) 1)=(((x+y) / 2:Nat):Int):=by
 rw[qo h]
 have e1:IntKind.u64.wrap ((x+y:Nat):Int)=((x+y:Nat):Int):=by
  show ((x+y:Nat):Int) % 18446744073709551616=_
  omega
 rw[e1]
 have e2:ek .u64 ((x+y:Nat):Int) 1=(((x+y) / 2:Nat):Int):=by
  show Int.fdiv ((x+y:Nat):Int) (2 ^ 1)=_
  rw[Int.fdiv_eq_ediv_of_nonneg _ (by decide)]
  omega
 rw[e2]
 exact dW (by omega) (by omega)
theorem El (A:Nat→Int)(s:State)(n a b l:Nat)(hn:n≤1000000)(h1:a+l≤b)(h2:b+l≤n):wg (mk n A) (a:Int) (b:Int) (l:Int) s=some (mk n (zy A a b l)):=by
 unfold wg
 obtain⟨y,rfl,h⟩:=iz (L:=fun i (D:List Int)=>mJ (mk n A) (a:Int) (b:Int) (l:Int) s ((i:Int),D)) l (fun i D=>D=mk n (zy A a b i)) (fun y=>y=.inr (mk n (zy A a b l))) (s:=mk n A)
  (by
   rintro i D hi rfl
   refine .inl ⟨_,rfl,?_⟩
   show mJ (mk n A) (a:Int) (b:Int) (l:Int) s ((i:Int),_)=mJ (mk n A) (a:Int) (b:Int) (l:Int) s (((i+1:Nat):Int),_)
   rw[Gt,lZ]
   have g1:decide ((i:Int)<(l:Int))=true:=decide_eq_true (by omega)
   simp only[g1,cond_true,qo (show b+i≤1000000000 by omega),qo (show a+i≤1000000000 by omega),nX (show i≤1000000000 by omega),iH (show b+i<n by omega),iH (show a+i<n by omega),Option.bind_some,Ae,eg]
   congr 2
   apply jN
   intro k hk
   unfold zy
   repeat' split
   all_goals first | omega | exact congrArg A (by omega) | (congr 1;omega) | rfl)
  (by
   rintro D rfl
   refine⟨_,rfl,?_⟩
   show mJ (mk n A) (a:Int) (b:Int) (l:Int) s ((l:Int),_)=_
   rw[Gt,lZ]
   simp only[decide_eq_false (Int.lt_irrefl _),cond_false])
  (jN fun k _=>by
   unfold zy
   repeat' split
   all_goals first | omega | rfl)
 rw[show mJ (mk n A) (a:Int) (b:Int) (l:Int) s (0,mk n A)=_ from h,ch,dG,dG,Nat.beq_refl]
 rfl
theorem Eb (A0:List Int)(s:State)(n a0 m b0:Nat)(hn:n≤1000000):∀(N i j:Nat) (A:Nat→Int),i+j≤N→1≤i→1≤j→i≤m→m+j≤n→∃(h:Nat) (A':Nat→Int),uW A0 (a0:Int) (m:Int) (b0:Int) s ((i:Int),(j:Int),mk n A)=some (.inr ((m:Int),(h:Int),mk n A'))∧h≤m∧m+h≤n∧∀k,zy A' (m - h) m h k=vN A (m - i) m (m+j) k
 | 0,i,j,A,h0,hi,hj,_,_=>by omega
 | N+1,i,j,A,h0,hi,hj,him,hjn=>by
  rw[Rx,oz]
  rcases Nat.lt_trichotomy i j with hlt | heq | hgt
  ·have g1:((i:Int) != (j:Int))=true:=by rw[bne,beq_eq_false_iff_ne.2 (by omega)];rfl
   have g2:decide ((i:Int)>(j:Int))=false:=decide_eq_false (by omega)
   simp only[g1,g2,cond_true,cond_false,eZ him (show m≤1000000000 by omega),qo (show m+j≤1000000000 by omega),eZ (show i≤m+j by omega) (show m+j≤1000000000 by omega),eZ (show i≤j by omega) (show j≤1000000000 by omega),El A s n (m - i) (m+j - i) i hn (by omega) (by omega),Option.bind_some,dG,Nat.beq_refl,eL]
   obtain⟨h,A',e,p1,p2,p3⟩:=Eb A0 s n a0 m b0 hn N i (j - i) (zy A (m - i) (m+j - i) i) (by omega) hi (by omega) him (by omega)
   refine⟨h,A',e,p1,p2,fun k=>?_⟩
   rw[p3]
   unfold vN zy
   repeat' split
   all_goals first | omega | exact congrArg A (by omega) | (congr 1;omega) | rfl
  ·subst heq
   refine⟨i,A,?_,him,hjn,fun k=>?_⟩
   ·simp only[bne_self_eq_false,cond_false]
   ·unfold vN zy
    repeat' split
    all_goals first | omega | exact congrArg A (by omega) | (congr 1;omega) | rfl
  ·have g1:((i:Int) != (j:Int))=true:=by rw[bne,beq_eq_false_iff_ne.2 (by omega)];rfl
   have g2:decide ((i:Int)>(j:Int))=true:=decide_eq_true (by omega)
   simp only[g1,g2,cond_true,eZ him (show m≤1000000000 by omega),eZ (show j≤i by omega) (show i≤1000000000 by omega),El A s n (m - i) m j hn (by omega) (by omega),Option.bind_some,dG,Nat.beq_refl,eL]
   obtain⟨h,A',e,p1,p2,p3⟩:=Eb A0 s n a0 m b0 hn N (i - j) j (zy A (m - i) m j) (by omega) (by omega) hj (by omega) hjn
   refine⟨h,A',e,p1,p2,fun k=>?_⟩
   rw[p3]
   unfold vN zy
   repeat' split
   all_goals first | omega | exact congrArg A (by omega) | (congr 1;omega) | rfl
theorem acO (A:Nat→Int)(s:State)(n a m b:Nat)(hn:n≤1000000)(h1:a<m)(h2:m<b)(h3:b≤n):yb (mk n A) (a:Int) (m:Int) (b:Int) s=some (mk n (vN A a m b)):=by
 unfold yb
 rw[eZ (show a≤m by omega) (by omega),eZ (show m≤b by omega) (by omega)]
 obtain⟨h,A',e,p1,p2,p3⟩:=Eb (mk n A) s n a m b hn ((m - a)+(b - m)) (m - a) (b - m) A (Nat.le_refl _) (by omega) (by omega) (by omega) (by omega)
 rw[e,ch]
 simp only[eZ p1 (show m≤1000000000 by omega),El A' s n (m - h) m h hn (by omega) p2,Option.bind_some,dG,Nat.beq_refl,cond_true]
 congr 1
 apply jN
 intro k _
 rw[p3,show m - (m - a)=a by omega,show m+(b - m)=b by omega]
theorem ZY (x y:Int):Mn x y=some (if x<y then -1 else if y<x then 1 else 0):=by
 simp only[Mn,Mo,Option.bind_some,bne_self_eq_false,cond_false]
 by_cases h:x<y
 ·simp[h]
 ·by_cases h':y<x<;>simp[h,h']
def due (s:State)(x:Int):Int:=match aE s.Duties x with
 | some d=>d.Due
 | none=>0
def okX (s:State)(x:Int):Prop:=(aE s.Duties x).isSome=true
theorem zR {s:State}{x y:Int}(hx:okX s x)(hy:okX s y):∃r:Int,Bx x y s=some r∧decide (r<0)=decide (due s x<due s y):=by
 unfold Bx due
 unfold okX at hx hy
 cases h1:aE s.Duties x with
 | none=>rw[h1] at hx;cases hx
 | some d=>
  cases h2:aE s.Duties y with
  | none=>rw[h2] at hy;cases hy
  | some e=>
   simp only[Option.bind_some,ZY]
   refine⟨_,rfl,?_⟩
   by_cases h:d.Due<e.Due
   ·simp[h]
   ·by_cases h':e.Due<d.Due<;>simp[h,h']
def T (s:State)(x y:Int):Prop:=due s x<due s y∨(due s x=due s y∧x<y)
theorem T.le {s:State}{x y:Int}(h:T s x y):due s x≤due s y:=by rcases h with h | h<;>omega
theorem T.trans {s:State}{x y z:Int}(h:T s x y)(h2:T s y z):T s x z:=by
 rcases h with h | h<;>rcases h2 with h2 | h2
 ·exact .inl (by omega)
 ·exact .inl (by omega)
 ·exact .inl (by omega)
 ·exact .inr (by omega)
theorem T.irrefl {s:State}{x:Int}(h:T s x x):False:=by rcases h with h | h<;>omega
def tw (s:State)(A:Nat→Int)(a b:Nat):Prop:=∀i j,a≤i→i<j→j<b→T s (A i) (A j)
def Crs (s:State)(A:Nat→Int)(a m b:Nat):Prop:=∀i j,a≤i→i<m→m≤j→j<b→due s (A i)=due s (A j)→A i<A j
def lF (A' A:Nat→Int)(a b:Nat):Prop:=∀k,(k<a∨b≤k)→A' k=A k
def ib (A' A:Nat→Int)(a b:Nat):Prop:=(∀k,a≤k→k<b→∃k',a≤k'∧k'<b∧A' k=A k')∧(∀k,a≤k→k<b→∃k',a≤k'∧k'<b∧A k=A' k')
theorem ib.refl {A:Nat→Int}{a b:Nat}:ib A A a b:=⟨fun k h1 h2=>⟨k,h1,h2,rfl⟩,fun k h1 h2=>⟨k,h1,h2,rfl⟩⟩
theorem ib.trans {A B C:Nat→Int}{a b:Nat}(h:ib A B a b)(h2:ib B C a b):ib A C a b:=
 ⟨fun k q1 q2=>by
  obtain⟨k',p1,p2,p3⟩:=h.1 k q1 q2
  obtain⟨k2,r1,r2,r3⟩:=h2.1 k' p1 p2
  exact⟨k2,r1,r2,p3.trans r3⟩,fun k q1 q2=>by
  obtain⟨k',p1,p2,p3⟩:=h2.2 k q1 q2
  obtain⟨k2,r1,r2,r3⟩:=h.2 k' p1 p2
  exact⟨k2,r1,r2,p3.trans r3⟩⟩
theorem ib.widen {A B:Nat→Int}{a b c d:Nat}(h:ib A B c d)(ho:lF A B c d)(h1:a≤c)(h2:d≤b):ib A B a b:=by
 refine⟨fun k q1 q2=>?_,fun k q1 q2=>?_⟩
 ·by_cases hk:c≤k∧k<d
  ·obtain⟨k',p1,p2,p3⟩:=h.1 k hk.1 hk.2
   exact⟨k',by omega,by omega,p3⟩
  ·exact⟨k,q1,q2,ho k (by omega)⟩
 ·by_cases hk:c≤k∧k<d
  ·obtain⟨k',p1,p2,p3⟩:=h.2 k hk.1 hk.2
   exact⟨k',by omega,by omega,p3⟩
  ·exact⟨k,q1,q2,(ho k (by omega)).symm⟩
theorem JM {β:Type}{L:Int×Int→Option β}{R:Nat→β}{q:Nat→Bool}{lo hi:Nat}(hlh:lo≤hi)(hm:∀x y,lo≤x→x<y→y<hi→q y=true→q x=true)(hS:∀i j:Nat,lo≤i→i<j→j≤hi→L ((i:Int),(j:Int))=bif q ((i+j) / 2) then L ((((i+j) / 2+1:Nat):Int),(j:Int)) else L ((i:Int),(((i+j) / 2:Nat):Int)))(hE:∀i:Nat,lo≤i→i≤hi→L ((i:Int),(i:Int))=some (R i)):∃i,lo≤i∧i≤hi∧L ((lo:Int),(hi:Int))=some (R i)∧(∀x,lo≤x→x<i→q x=true)∧(∀x,i≤x→x<hi→q x=false):=by
 have key:∀N (i j:Nat),j - i≤N→lo≤i→i≤j→j≤hi→(∀x,lo≤x→x<i→q x=true)→(∀x,j≤x→x<hi→q x=false)→∃k,lo≤k∧k≤hi∧L ((i:Int),(j:Int))=some (R k)∧(∀x,lo≤x→x<k→q x=true)∧(∀x,k≤x→x<hi→q x=false):=by
  intro N
  induction N with
  | zero=>
   intro i j h0 h1 h2 h3 h4 h5
   obtain rfl:i=j:=by omega
   exact⟨i,h1,h3,hE i h1 h3,h4,h5⟩
  | succ N ih=>
   intro i j h0 h1 h2 h3 h4 h5
   rcases Nat.lt_or_eq_of_le h2 with h6 | rfl
   ·rw[hS i j h1 h6 h3]
    cases hq:q ((i+j) / 2) with
    | true=>
     refine ih ((i+j) / 2+1) j (by omega) (by omega) (by omega) h3 (fun x hx1 hx2=>?_) h5
     rcases Nat.lt_or_eq_of_le (Nat.le_of_lt_succ hx2) with h7 | rfl
     ·exact hm x _ hx1 h7 (by omega) hq
     ·exact hq
    | false=>
     refine ih i ((i+j) / 2) (by omega) h1 (by omega) (by omega) h4 (fun x hx1 hx2=>?_)
     rcases Nat.lt_or_eq_of_le hx1 with h7 | rfl
     ·cases hqx:q x with
      | false=>rfl
      | true=>rw[hm _ x (by omega) h7 hx2 hqx] at hq;cases hq
     ·exact hq
   ·exact⟨i,h1,h3,hE i h1 h3,h4,h5⟩
 exact key (hi - lo) lo hi (Nat.le_refl _) (Nat.le_refl _) hlh (Nat.le_refl _) (fun x h1 h2=>by omega) (fun x h1 h2=>by omega)
def KO (A:Nat→Int)(a k x:Nat):Int:=if a≤x∧x<k then A (x+1) else if x=k then A a else A x
def jx (A:Nat→Int)(m k x:Nat):Int:=if k<x∧x≤m then A (x - 1) else if x=k then A m else A x
theorem acR (s:State)(n:Nat)(hn:n≤1000000):∀(N a m b:Nat) (A:Nat→Int),b - a≤N→a<m→m<b→b≤n→(∀k,k<n→okX s (A k))→tw s A a m→tw s A m b→Crs s A a m b→
  ∃A',Jk (mk n A) (a:Int) (m:Int) (b:Int) s=some (mk n A')∧lF A' A a b∧ib A' A a b∧tw s A' a b:=by
 intro N
 induction N with
 | zero=>intro a m b A h0 h1 h2;omega
 | succ N ih=>
  intro a m b A h0 h1 h2 h3 hok hA hB hC
  rw[abC]
  unfold vb
  rw[eZ (show a≤m by omega) (by omega),eZ (show m≤b by omega) (by omega)]
  by_cases c1:m - a=1
  ·-- one element at the left
   have hma:m=a+1:=by omega
   rw[show ((((m - a:Nat):Int))==1)=true by rw[c1];rfl,cond_true]
   obtain⟨i,i1,i2,i3,i4,i5⟩:=JM (L:=pT (aJ fW) (mk n A) (a:Int) (m:Int) (b:Int) s) (R:=fun i=>.inr ((a:Int),(i:Int),mk n A)) (q:=fun h=>decide (due s (A h)<due s (A a))) (lo:=m) (hi:=b) (by omega)
    (fun x y hx hxy hy hq=>by
     rw[decide_eq_true_eq] at hq ⊢
     have:=(hB x y hx hxy hy).le
     omega)
    (fun i j hi hij hj=>by
     rw[Gu,js]
     obtain⟨r,r1,r2⟩:=zR (hok ((i+j) / 2) (by omega)) (hok a (by omega))
     simp only[show decide ((i:Int)<(j:Int))=true from decide_eq_true (by omega),cond_true,zb (show i+j≤1000000000 by omega),iH (show (i+j) / 2<n by omega),iH (show a<n by omega),Option.bind_some,r1,r2,eg,nX (show (i+j) / 2≤1000000000 by omega)]
     cases decide (due s (A ((i+j) / 2))<due s (A a))<;>rfl)
    (fun i hi hi2=>by
     rw[Gu,js]
     simp only[decide_eq_false (Int.lt_irrefl _),cond_false])
   rw[i3,ch]
   obtain⟨y,rfl,h⟩:=iz (L:=fun t (D:List Int)=>jV (aJ fW) (mk n A) (a:Int) (m:Int) (b:Int) s ((a:Int),(i:Int),mk n A) (((a+t:Nat):Int),D)) (i - 1 - a) (fun t D=>D=mk n (KO A a (a+t))) (fun y=>y=.inr (mk n (KO A a (i - 1)))) (s:=mk n A)
    (by
     rintro t D ht rfl
     refine .inl ⟨_,rfl,?_⟩
     show jV (aJ fW) (mk n A) (a:Int) (m:Int) (b:Int) s ((a:Int),(i:Int),mk n A) (((a+t:Nat):Int),_)=jV (aJ fW) (mk n A) (a:Int) (m:Int) (b:Int) s ((a:Int),(i:Int),mk n A) (((a+(t+1):Nat):Int),_)
     rw[Gv,jt]
     simp only[qq (show 1≤i by omega) (show i≤1000000000 by omega),show decide (((a+t:Nat):Int)<((i - 1:Nat):Int))=true from decide_eq_true (by omega),cond_true,nX (show a+t≤1000000000 by omega),iH (show a+t+1<n by omega),iH (show a+t<n by omega),Option.bind_some,Ae,eg]
     rw[show a+(t+1)=a+t+1 by omega]
     congr 2
     apply jN
     intro k hk
     unfold KO
     repeat' split
     all_goals first | omega | exact congrArg A (by omega) | (congr 1;omega) | rfl)
    (by
     rintro D rfl
     refine⟨_,rfl,?_⟩
     show jV (aJ fW) (mk n A) (a:Int) (m:Int) (b:Int) s ((a:Int),(i:Int),mk n A) (((a+(i - 1 - a):Nat):Int),_)=_
     rw[Gv,jt,show a+(i - 1 - a)=i - 1 by omega]
     simp only[qq (show 1≤i by omega) (show i≤1000000000 by omega),decide_eq_false (Int.lt_irrefl _),cond_false])
    (jN fun k _=>by
     unfold KO
     repeat' split
     all_goals first | omega | exact congrArg A (by omega) | (congr 1;omega) | rfl)
   rw[show jV (aJ fW) (mk n A) (a:Int) (m:Int) (b:Int) s ((a:Int),(i:Int),mk n A) ((a:Int),mk n A)=_ from h,ch,dG,dG,Nat.beq_refl,cond_true]
   refine⟨_,rfl,fun k hk=>?_,⟨fun k k1 k2=>?_,fun k k1 k2=>?_⟩,fun x y hx hxy hy=>?_⟩
   ·unfold KO
    repeat' split
    all_goals first | omega | exact congrArg A (by omega) | (congr 1;omega) | rfl
   ·unfold KO
    by_cases q1:k<i - 1
    ·exact⟨k+1,by omega,by omega,by rw[if_pos (by omega)]⟩
    ·by_cases q2:k=i - 1
     ·exact⟨a,by omega,by omega,by rw[if_neg (by omega),if_pos q2]⟩
     ·exact⟨k,by omega,by omega,by rw[if_neg (by omega),if_neg q2]⟩
   ·unfold KO
    by_cases q1:k=a
    ·exact⟨i - 1,by omega,by omega,by rw[if_neg (by omega),if_pos rfl,q1]⟩
    ·by_cases q2:k<i
     ·exact⟨k - 1,by omega,by omega,by rw[if_pos (by omega)];congr 1;omega⟩
     ·exact⟨k,by omega,by omega,by rw[if_neg (by omega),if_neg (by omega)]⟩
   ·have hlow:∀z,m≤z→z<i→T s (A z) (A a):=fun z z1 z2=>by
     have:=i4 z z1 z2
     rw[decide_eq_true_eq] at this
     exact .inl this
    have hhigh:∀z,i≤z→z<b→T s (A a) (A z):=fun z z1 z2=>by
     have h7:=i5 z z1 z2
     rw[decide_eq_false_iff_not] at h7
     by_cases h8:due s (A a)=due s (A z)
     ·exact .inr ⟨h8,hC a z (Nat.le_refl _) (by omega) (by omega) z2 h8⟩
     ·exact .inl (by omega)
    unfold KO
    by_cases x1:x<i - 1
    ·rw[if_pos (show a≤x∧x<i - 1 from⟨hx,x1⟩)]
     by_cases y1:y<i - 1
     ·rw[if_pos (by omega)];exact hB (x+1) (y+1) (by omega) (by omega) (by omega)
     ·by_cases y2:y=i - 1
      ·rw[if_neg (by omega),if_pos y2];exact hlow (x+1) (by omega) (by omega)
      ·rw[if_neg (by omega),if_neg y2];exact hB (x+1) y (by omega) (by omega) hy
    ·by_cases x2:x=i - 1
     ·rw[if_neg (show ¬(a≤x∧x<i - 1) by omega),if_pos x2,if_neg (by omega),if_neg (by omega)]
      exact hhigh y (by omega) hy
     ·rw[if_neg (show ¬(a≤x∧x<i - 1) by omega),if_neg x2,if_neg (by omega),if_neg (by omega)]
      exact hB x y (by omega) hxy hy
  rw[show ((((m - a:Nat):Int))==1)=false from beq_eq_false_iff_ne.2 (by omega),cond_false]
  by_cases c2:b - m=1
  ·-- one element at the right
   rw[show ((((b - m:Nat):Int))==1)=true by rw[c2];rfl,cond_true]
   obtain⟨i,i1,i2,i3,i4,i5⟩:=JM (L:=pU (aJ fW) (mk n A) (a:Int) (m:Int) (b:Int) s) (R:=fun i=>.inr ((m:Int),(i:Int),mk n A)) (q:=fun h=>!decide (due s (A m)<due s (A h))) (lo:=a) (hi:=m) (by omega)
    (fun x y hx hxy hy hq=>by
     rw[Bool.not_eq_true',decide_eq_false_iff_not] at hq ⊢
     have:=(hA x y hx hxy hy).le
     omega)
    (fun i j hi hij hj=>by
     rw[Gw,ju]
     obtain⟨r,r1,r2⟩:=zR (hok m (by omega)) (hok ((i+j) / 2) (by omega))
     simp only[show decide ((i:Int)<(j:Int))=true from decide_eq_true (by omega),cond_true,zb (show i+j≤1000000000 by omega),iH (show (i+j) / 2<n by omega),iH (show m<n by omega),Option.bind_some,r1,r2,eg,nX (show (i+j) / 2≤1000000000 by omega)]
     cases decide (due s (A m)<due s (A ((i+j) / 2)))<;>rfl)
    (fun i hi hi2=>by
     rw[Gw,ju]
     simp only[decide_eq_false (Int.lt_irrefl _),cond_false])
   rw[i3,ch]
   obtain⟨y,rfl,h⟩:=iz (L:=fun t (D:List Int)=>jW (aJ fW) (mk n A) (a:Int) (m:Int) (b:Int) s ((m:Int),(i:Int),mk n A) (((m - t:Nat):Int),D)) (m - i) (fun t D=>D=mk n (jx A m (m - t))) (fun y=>y=.inr (mk n (jx A m i))) (s:=mk n A)
    (by
     rintro t D ht rfl
     refine .inl ⟨_,rfl,?_⟩
     show jW (aJ fW) (mk n A) (a:Int) (m:Int) (b:Int) s ((m:Int),(i:Int),mk n A) (((m - t:Nat):Int),_)=jW (aJ fW) (mk n A) (a:Int) (m:Int) (b:Int) s ((m:Int),(i:Int),mk n A) (((m - (t+1):Nat):Int),_)
     rw[Gx,jv]
     simp only[show decide (((m - t:Nat):Int)>(i:Int))=true from decide_eq_true (by omega),cond_true,qq (show 1≤m - t by omega) (show m - t≤1000000000 by omega),iH (show m - t - 1<n by omega),iH (show m - t<n by omega),Option.bind_some,Ae,eg]
     rw[show m - (t+1)=m - t - 1 by omega]
     congr 2
     apply jN
     intro k hk
     unfold jx
     repeat' split
     all_goals first | omega | exact congrArg A (by omega) | (congr 1;omega) | rfl)
    (by
     rintro D rfl
     refine⟨_,rfl,?_⟩
     show jW (aJ fW) (mk n A) (a:Int) (m:Int) (b:Int) s ((m:Int),(i:Int),mk n A) (((m - (m - i):Nat):Int),_)=_
     rw[Gx,jv,show m - (m - i)=i by omega]
     simp only[show decide ((i:Int)>(i:Int))=false from decide_eq_false (Int.lt_irrefl _),cond_false])
    (jN fun k _=>by
     unfold jx
     repeat' split
     all_goals first | omega | exact congrArg A (by omega) | (congr 1;omega) | rfl)
   rw[show jW (aJ fW) (mk n A) (a:Int) (m:Int) (b:Int) s ((m:Int),(i:Int),mk n A) ((m:Int),mk n A)=_ from h,ch,dG,dG,Nat.beq_refl,cond_true]
   refine⟨_,rfl,fun k hk=>?_,⟨fun k k1 k2=>?_,fun k k1 k2=>?_⟩,fun x y hx hxy hy=>?_⟩
   ·unfold jx
    repeat' split
    all_goals first | omega | exact congrArg A (by omega) | (congr 1;omega) | rfl
   ·unfold jx
    by_cases q1:i<k∧k≤m
    ·exact⟨k - 1,by omega,by omega,by rw[if_pos q1]⟩
    ·by_cases q2:k=i
     ·exact⟨m,by omega,by omega,by rw[if_neg q1,if_pos q2]⟩
     ·exact⟨k,by omega,by omega,by rw[if_neg q1,if_neg q2]⟩
   ·unfold jx
    by_cases q1:k=m
    ·exact⟨i,by omega,by omega,by rw[if_neg (by omega),if_pos rfl,q1]⟩
    ·by_cases q2:i≤k
     ·exact⟨k+1,by omega,by omega,by rw[if_pos (by omega)];congr 1⟩
     ·exact⟨k,by omega,by omega,by rw[if_neg (by omega),if_neg (by omega)]⟩
   ·have hlow:∀z,a≤z→z<i→T s (A z) (A m):=fun z z1 z2=>by
     have h7:=i4 z z1 z2
     rw[Bool.not_eq_true',decide_eq_false_iff_not] at h7
     by_cases h8:due s (A z)=due s (A m)
     ·exact .inr ⟨h8,hC z m z1 (by omega) (Nat.le_refl _) (by omega) h8⟩
     ·exact .inl (by omega)
    have hhigh:∀z,i≤z→z<m→T s (A m) (A z):=fun z z1 z2=>by
     have h7:=i5 z z1 z2
     rw[Bool.not_eq_false',decide_eq_true_eq] at h7
     exact .inl h7
    unfold jx
    by_cases x1:i<x
    ·rw[if_pos (show i<x∧x≤m by omega),if_pos (show i<y∧y≤m by omega)]
     exact hA (x - 1) (y - 1) (by omega) (by omega) (by omega)
    ·by_cases x2:x=i
     ·rw[if_neg (show ¬(i<x∧x≤m) by omega),if_pos x2,if_pos (show i<y∧y≤m by omega)]
      exact hhigh (y - 1) (by omega) (by omega)
     ·rw[if_neg (show ¬(i<x∧x≤m) by omega),if_neg x2]
      by_cases y1:i<y
      ·rw[if_pos (show i<y∧y≤m by omega)];exact hA x (y - 1) hx (by omega) (by omega)
      ·by_cases y2:y=i
       ·rw[if_neg (show ¬(i<y∧y≤m) by omega),if_pos y2];exact hlow x hx (by omega)
       ·rw[if_neg (show ¬(i<y∧y≤m) by omega),if_neg y2];exact hA x y hx hxy (by omega)
  rw[show ((((b - m:Nat):Int))==1)=false from beq_eq_false_iff_ne.2 (by omega),cond_false]
  -- both sides are longer
  rw[zb (show a+b≤1000000000 by omega)]
  obtain⟨mid,hmid⟩:∃mid,mid=(a+b) / 2:=⟨_,rfl⟩
  rw[←hmid]
  simp only[qo (show mid+m≤1000000000 by omega)]
  obtain⟨lo,r,hlr,hlo,hpair⟩:∃lo r:Nat,lo≤r∧((mid<m∧lo=mid+m - b∧r=mid)∨(m≤mid∧lo=a∧r=m))∧(bif decide ((m:Int)>(mid:Int)) then ((ac (((mid+m:Nat):Int) - (b:Int))),(mid:Int)) else ((a:Int),(m:Int)))=((lo:Int),(r:Int)):=by
   by_cases hm:mid<m
   ·refine⟨mid+m - b,mid,by omega,.inl ⟨hm,rfl,rfl⟩,?_⟩
    rw[decide_eq_true (by omega),cond_true,eZ (show b≤mid+m by omega) (by omega)]
   ·refine⟨a,m,by omega,.inr ⟨by omega,rfl,rfl⟩,?_⟩
    rw[decide_eq_false (by omega),cond_false]
  rw[hpair,eg]
  obtain⟨st,i1,i2,i3,i4,i5⟩:=JM (L:=rV (aJ fW) (mk n A) (a:Int) (m:Int) (b:Int) s) (R:=fun i=>.inr ((b:Int),(mid:Int),((mid+m:Nat):Int),(i:Int))) (q:=fun c=>!decide (due s (A (mid+m - 1 - c))<due s (A c))) (lo:=lo) (hi:=r) hlr
   (fun x y hx hxy hy hq=>by
    rw[Bool.not_eq_true',decide_eq_false_iff_not] at hq ⊢
    have q1:=(hA x y (by omega) hxy (by omega)).le
    have q2:=(hB (mid+m - 1 - y) (mid+m - 1 - x) (by omega) (by omega) (by omega)).le
    omega)
   (fun i j hi hij hj=>by
    rw[Gy,ky]
    obtain⟨r',r1,r2⟩:=zR (hok (mid+m - 1 - (i+j) / 2) (by omega)) (hok ((i+j) / 2) (by omega))
    simp only[zb (show a+b≤1000000000 by omega)]
    rw[←hmid]
    simp only[show decide ((i:Int)<(j:Int))=true from decide_eq_true (by omega),cond_true,zb (show i+j≤1000000000 by omega),qo (show mid+m≤1000000000 by omega),qq (show 1≤mid+m by omega) (show mid+m≤1000000000 by omega),eZ (show (i+j) / 2≤mid+m - 1 by omega) (show mid+m - 1≤1000000000 by omega),iH (show mid+m - 1 - (i+j) / 2<n by omega),iH (show (i+j) / 2<n by omega),Option.bind_some,r1,r2,eg,nX (show (i+j) / 2≤1000000000 by omega)]
    cases decide (due s (A (mid+m - 1 - (i+j) / 2))<due s (A ((i+j) / 2)))<;>rfl)
   (fun i hi hi2=>by
    rw[Gy,ky]
    simp only[zb (show a+b≤1000000000 by omega)]
    rw[←hmid]
    simp only[decide_eq_false (Int.lt_irrefl _),cond_false,qo (show mid+m≤1000000000 by omega)])
  rw[i3,ch]
  obtain⟨en,hen⟩:∃en,en=mid+m - st:=⟨_,rfl⟩
  have hend:ac (((mid+m:Nat):Int) - (st:Int))=(en:Int):=by rw[eZ (by omega) (by omega),hen]
  simp only[hend,eg]
  have b1:a≤st:=by omega
  have b2:st≤mid:=by omega
  have b3:st≤m:=by omega
  have b4:m≤en:=by omega
  have b5:mid≤en:=by omega
  have b6:en≤b:=by omega
  -- what the search has found
  have f1:∀x y,a≤x→x<st→en≤y→y<b→T s (A x) (A y):=fun x y x1 x2 y1 y2=>by
   by_cases hs:lo<st
   ·have h7:=i4 (st - 1) (by omega) (by omega)
    rw[Bool.not_eq_true',decide_eq_false_iff_not,show mid+m - 1 - (st - 1)=en by omega] at h7
    have h9:T s (A (st - 1)) (A en):=by
     by_cases h8:due s (A (st - 1))=due s (A en)
     ·exact .inr ⟨h8,hC (st - 1) en (by omega) (by omega) (by omega) (by omega) h8⟩
     ·exact .inl (by omega)
    have h10:T s (A x) (A en):=by
     rcases Nat.lt_or_eq_of_le (show x≤st - 1 by omega) with h | rfl
     ·exact (hA x (st - 1) x1 h (by omega)).trans h9
     ·exact h9
    rcases Nat.lt_or_eq_of_le y1 with h | rfl
    ·exact h10.trans (hB en y b4 h y2)
    ·exact h10
   ·omega
  have f2:∀x y,m≤x→x<en→st≤y→y<m→T s (A x) (A y):=fun x y x1 x2 y1 y2=>by
   by_cases hs:st<r
   ·have h7:=i5 st (Nat.le_refl _) hs
    rw[Bool.not_eq_false',decide_eq_true_eq,show mid+m - 1 - st=en - 1 by omega] at h7
    have h9:T s (A (en - 1)) (A st):=.inl h7
    have h10:T s (A x) (A st):=by
     rcases Nat.lt_or_eq_of_le (show x≤en - 1 by omega) with h | rfl
     ·exact (hB x (en - 1) x1 h (by omega)).trans h9
     ·exact h9
    rcases Nat.lt_or_eq_of_le y1 with h | rfl
    ·exact h10.trans (hA st y b1 h y2)
    ·exact h10
   ·omega
  obtain⟨A2,hA2⟩:∃A2,A2=vN A st m en:=⟨_,rfl⟩
  have e1:(bif (bif decide ((st:Int)<(m:Int)) then decide ((m:Int)<(en:Int)) else false) then ((yb (mk n A) (st:Int) (m:Int) (en:Int) s).bind fun r62=>bif Nat.beq r62.length (mk n A).length then (some (.inr r62)) else none) else (some (.inr (mk n A))):Option (List Int⊕List Int))=some (.inr (mk n A2)):=by
   by_cases hr:st<m∧m<en
   ·rw[decide_eq_true (by omega),cond_true,decide_eq_true (by omega),cond_true,acO A s n st m en hn hr.1 hr.2 (by omega),Option.bind_some,dG,dG,Nat.beq_refl,hA2]
    rfl
   ·have ee:mk n A=mk n A2:=jN fun k _=>by
     rw[hA2]
     unfold vN
     repeat' split
     all_goals first | omega | exact congrArg A (by omega) | (congr 1;omega) | rfl
    rw[←ee]
    by_cases hr1:st<m
    ·rw[decide_eq_true (by omega),cond_true,decide_eq_false (by omega),cond_false]
    ·rw[decide_eq_false (by omega),cond_false,cond_false]
  rw[e1,ch]
  -- where the elements stand now
  have g1:∀k,a≤k→k<st→A2 k=A k:=fun k _ _=>by rw[hA2];unfold vN;rw[if_neg (by omega),if_neg (by omega)]
  have g2:∀k,st≤k→k<mid→A2 k=A (k - st+m):=fun k _ _=>by rw[hA2];unfold vN;rw[if_pos (by omega)]
  have g3:∀k,mid≤k→k<en→A2 k=A (k - mid+st):=fun k _ _=>by rw[hA2];unfold vN;rw[if_neg (by omega),if_pos (by omega)];congr 1;omega
  have g4:∀k,en≤k→A2 k=A k:=fun k _=>by rw[hA2];unfold vN;rw[if_neg (by omega),if_neg (by omega)]
  have g5:∀k,k<st→A2 k=A k:=fun k _=>by rw[hA2];unfold vN;rw[if_neg (by omega),if_neg (by omega)]
  have hok2:∀k,k<n→okX s (A2 k):=fun k hk=>by
   rw[hA2]
   unfold vN
   repeat' split
   all_goals exact hok _ (by omega)
  have s12:ib A2 A a b:=by
   refine⟨fun k k1 k2=>?_,fun k k1 k2=>?_⟩
   ·by_cases q1:k<st
    ·exact⟨k,k1,k2,g1 k k1 q1⟩
    ·by_cases q2:k<mid
     ·exact⟨k - st+m,by omega,by omega,g2 k (by omega) q2⟩
     ·by_cases q3:k<en
      ·exact⟨k - mid+st,by omega,by omega,g3 k (by omega) q3⟩
      ·exact⟨k,k1,k2,g4 k (by omega)⟩
   ·by_cases q1:k<st
    ·exact⟨k,k1,k2,(g1 k k1 q1).symm⟩
    ·by_cases q2:k<m
     ·exact⟨k - st+mid,by omega,by omega,by rw[g3 _ (by omega) (by omega)];congr 1;omega⟩
     ·by_cases q3:k<en
      ·exact⟨k - m+st,by omega,by omega,by rw[g2 _ (by omega) (by omega)];congr 1;omega⟩
      ·exact⟨k,k1,k2,(g4 k (by omega)).symm⟩
  -- the left zb
  obtain⟨A3,e2,o3,s3,t3⟩:∃A3,(bif (bif decide ((a:Int)<(st:Int)) then decide ((st:Int)<(mid:Int)) else false) then ((aJ fW (mk n A2,(a:Int),(st:Int),(mid:Int),s)).bind fun r60=>bif Nat.beq r60.length (mk n A2).length then (some (.inr r60)) else none) else (some (.inr (mk n A2))):Option (List Int⊕List Int))=some (.inr (mk n A3))∧lF A3 A2 a mid∧ib A3 A2 a mid∧tw s A3 a mid:=by
   by_cases hr:a<st∧st<mid
   ·obtain⟨A3,q1,q2,q3,q4⟩:=ih a st mid A2 (by omega) hr.1 hr.2 (by omega) hok2
     (fun i j h1 h2 h3=>by rw[g1 i h1 (by omega),g1 j (by omega) h3];exact hA i j h1 h2 (by omega))
     (fun i j h1 h2 h3=>by rw[g2 i h1 (by omega),g2 j (by omega) h3];exact hB _ _ (by omega) (by omega) (by omega))
     (fun i j h1 h2 h3 h4 h5=>by rw[g1 i h1 h2,g2 j h3 h4] at h5 ⊢;exact hC _ _ h1 (by omega) (by omega) (by omega) h5)
    refine⟨A3,?_,q2,q3,q4⟩
    rw[decide_eq_true (by omega),cond_true,decide_eq_true (by omega),cond_true,show aJ fW (mk n A2,(a:Int),(st:Int),(mid:Int),s)=_ from q1,Option.bind_some,dG,dG,Nat.beq_refl]
    rfl
   ·refine⟨A2,?_,fun _ _=>rfl,ib.refl,fun i j h1 h2 h3=>?_⟩
    ·by_cases hr1:a<st
     ·rw[decide_eq_true (by omega),cond_true,decide_eq_false (by omega),cond_false]
     ·rw[decide_eq_false (by omega),cond_false,cond_false]
    ·by_cases q:a<st
     ·rw[g1 i h1 (by omega),g1 j (by omega) (by omega)];exact hA i j h1 h2 (by omega)
     ·rw[g2 i (by omega) (by omega),g2 j (by omega) h3];exact hB _ _ (by omega) (by omega) (by omega)
  rw[e2,ch]
  have hok3:∀k,k<n→okX s (A3 k):=fun k hk=>by
   by_cases h:a≤k∧k<mid
   ·obtain⟨k',p1,p2,p3⟩:=s3.1 k h.1 h.2
    rw[p3];exact hok2 k' (by omega)
   ·rw[o3 k (by omega)];exact hok2 k hk
  have g3':∀k,mid≤k→k<en→A3 k=A (k - mid+st):=fun k h1 h2=>by rw[o3 k (by omega)];exact g3 k h1 h2
  have g4':∀k,en≤k→A3 k=A k:=fun k h1=>by rw[o3 k (by omega)];exact g4 k h1
  -- the right zb
  obtain⟨A4,e3,o4,s4,t4⟩:∃A4,(bif (bif decide ((mid:Int)<(en:Int)) then decide ((en:Int)<(b:Int)) else false) then ((aJ fW (mk n A3,(mid:Int),(en:Int),(b:Int),s)).bind fun r58=>bif Nat.beq r58.length (mk n A3).length then (some (.inr r58)) else none) else (some (.inr (mk n A3))):Option (List Int⊕List Int))=some (.inr (mk n A4))∧lF A4 A3 mid b∧ib A4 A3 mid b∧tw s A4 mid b:=by
   by_cases hr:mid<en∧en<b
   ·obtain⟨A4,q1,q2,q3,q4⟩:=ih mid en b A3 (by omega) hr.1 hr.2 h3 hok3
     (fun i j h1 h2 h3=>by rw[g3' i h1 (by omega),g3' j (by omega) h3];exact hA _ _ (by omega) (by omega) (by omega))
     (fun i j h1 h2 h3=>by rw[g4' i h1,g4' j (by omega)];exact hB _ _ (by omega) (by omega) (by omega))
     (fun i j h1 h2 h3 h4 h5=>by rw[g3' i h1 h2,g4' j h3] at h5 ⊢;exact hC _ _ (by omega) (by omega) (by omega) (by omega) h5)
    refine⟨A4,?_,q2,q3,q4⟩
    rw[decide_eq_true (by omega),cond_true,decide_eq_true (by omega),cond_true,show aJ fW (mk n A3,(mid:Int),(en:Int),(b:Int),s)=_ from q1,Option.bind_some,dG,dG,Nat.beq_refl]
    rfl
   ·refine⟨A3,?_,fun _ _=>rfl,ib.refl,fun i j h1 h2 h3=>?_⟩
    ·by_cases hr1:mid<en
     ·rw[decide_eq_true (by omega),cond_true,decide_eq_false (by omega),cond_false]
     ·rw[decide_eq_false (by omega),cond_false,cond_false]
    ·by_cases q:mid<en
     ·rw[g3' i h1 (by omega),g3' j (by omega) (by omega)];exact hA _ _ (by omega) (by omega) (by omega)
     ·rw[g4' i (by omega),g4' j (by omega)];exact hB _ _ (by omega) (by omega) (by omega)
  rw[e3,ch,dG,dG,Nat.beq_refl,cond_true]
  have s34:ib A4 A2 a b:=(s4.widen o4 (by omega) (Nat.le_refl _)).trans (s3.widen o3 (Nat.le_refl _) (by omega))
  refine⟨A4,rfl,fun k hk=>?_,s34.trans s12,fun i j h1 h2 h3=>?_⟩
  ·rw[o4 k (by omega),o3 k (by omega)]
   rcases hk with hk | hk
   ·exact g5 k (by omega)
   ·exact g4 k (by omega)
  ·by_cases q1:j<mid
   ·rw[o4 i (by omega),o4 j (by omega)];exact t3 i j h1 h2 q1
   ·by_cases q2:mid≤i
    ·exact t4 i j q2 h2 h3
    ·obtain⟨i',p1,p2,p3⟩:=s3.1 i h1 (by omega)
     obtain⟨j',p4,p5,p6⟩:=s4.1 j (by omega) h3
     rw[o4 i (by omega),p3,p6,o3 j' (by omega)]
     by_cases x1:i'<st
     ·rw[g1 i' p1 x1]
      by_cases y1:j'<en
      ·rw[g3 j' p4 y1];exact hA _ _ p1 (by omega) (by omega)
      ·rw[g4 j' (by omega)];exact f1 _ _ p1 x1 (by omega) p5
     ·rw[g2 i' (by omega) p2]
      by_cases y1:j'<en
      ·rw[g3 j' p4 y1];exact f2 _ _ (by omega) (by omega) (by omega) (by omega)
      ·rw[g4 j' (by omega)];exact hB _ _ (by omega) (by omega) p5
theorem W7 (s:State)(n:Nat)(hn:n≤1000000)(D0:List Int)(a0 b0:Int)(a b':Nat)(i:Nat)(hi:a<i)(hin:i<n)(x5:Int×Int×Int×List Int)(hx5:x5.1=(a:Int))(A:Nat→Int)(hok:∀k,k<n→okX s (A k))(hA:tw s A a i)(hlt:∀k,a≤k→k<i→A k<A i) :
  ∃j,a≤j∧j≤i∧lj D0 a0 b0 s x5 ((i:Int),mk n A)=some (.inr (mk n (jx A i j)))∧tw s (jx A i j) a (i+1):=by
 have key:∀t j,j=i - t→t≤i - a→(∀k,j≤k→k<i→due s (A i)<due s (A k))→∃j',a≤j'∧j'≤i∧lj D0 a0 b0 s x5 ((j:Int),mk n (jx A i j))=some (.inr (mk n (jx A i j')))∧(∀k,j'≤k→k<i→due s (A i)<due s (A k))∧(a<j'→¬due s (A i)<due s (A (j' - 1))):=by
  have main:∀u t j,u+t=i - a→j=i - t→(∀k,j≤k→k<i→due s (A i)<due s (A k))→∃j',a≤j'∧j'≤i∧lj D0 a0 b0 s x5 ((j:Int),mk n (jx A i j))=some (.inr (mk n (jx A i j')))∧(∀k,j'≤k→k<i→due s (A i)<due s (A k))∧(a<j'→¬due s (A i)<due s (A (j' - 1))):=by
   intro u
   induction u with
   | zero=>
    intro t j h1 h2 h3
    have hj:j=a:=by omega
    refine⟨a,Nat.le_refl _,by omega,?_,by rw[←hj];exact h3,fun h=>absurd h (Nat.lt_irrefl _)⟩
    rw[wd,kw,hj,hx5]
    simp only[show decide ((a:Int)>(a:Int))=false from decide_eq_false (Int.lt_irrefl _),cond_false,eL]
   | succ u ih=>
    intro t j h1 h2 h3
    have hja:a<j:=by omega
    have hji:j≤i:=by omega
    have e1:jx A i j j=A i:=by unfold jx;rw[if_neg (by omega),if_pos rfl]
    have e2:jx A i j (j - 1)=A (j - 1):=by unfold jx;rw[if_neg (by omega),if_neg (by omega)]
    obtain⟨r,r1,r2⟩:=zR (hok i hin) (hok (j - 1) (by omega))
    have hst:lj D0 a0 b0 s x5 ((j:Int),mk n (jx A i j))=bif decide (due s (A i)<due s (A (j - 1))) then lj D0 a0 b0 s x5 (((j - 1:Nat):Int),mk n (jx A i (j - 1))) else some (.inr (mk n (jx A i j))):=by
     rw[wd,kw,hx5]
     simp only[show decide ((j:Int)>(a:Int))=true from decide_eq_true (by omega),cond_true,qq (show 1≤j by omega) (show j≤1000000000 by omega),iH (show j<n by omega),iH (show j - 1<n by omega),e1,e2,Option.bind_some,r1,r2,eL,Ae,eg]
     cases decide (due s (A i)<due s (A (j - 1))) with
     | false=>rfl
     | true=>
      rw[cond_true,cond_true]
      congr 2
      apply jN
      intro k hk
      unfold jx
      repeat' split
      all_goals first | omega | exact congrArg A (by omega) | (congr 1;omega) | rfl
    rw[hst]
    cases hd:decide (due s (A i)<due s (A (j - 1))) with
    | false=>
     rw[decide_eq_false_iff_not] at hd
     exact⟨j,by omega,hji,rfl,h3,fun _=>hd⟩
    | true=>
     rw[decide_eq_true_eq] at hd
     refine ih (t+1) (j - 1) (by omega) (by omega) fun k k1 k2=>?_
     rcases Nat.lt_or_eq_of_le k1 with h | rfl
     ·exact h3 k (by omega) k2
     ·exact hd
  intro t j h1 h2 h3
  exact main (i - a - t) t j (by omega) h1 h3
 obtain⟨j,j1,j2,j3,j4,j5⟩:=key 0 i (by omega) (by omega) (fun k h1 h2=>by omega)
 refine⟨j,j1,j2,?_,?_⟩
 ·have h0:mk n (jx A i i)=mk n A:=jN fun k _=>by
   unfold jx
   repeat' split
   all_goals first | omega | exact congrArg A (by omega) | rfl
  rw[←h0];exact j3
 ·have hlow:∀z,a≤z→z<j→T s (A z) (A i):=fun z z1 z2=>by
   have h7:=j5 (by omega)
   have h9:T s (A (j - 1)) (A i):=by
    by_cases h8:due s (A (j - 1))=due s (A i)
    ·exact .inr ⟨h8,hlt (j - 1) (by omega) (by omega)⟩
    ·exact .inl (by omega)
   rcases Nat.lt_or_eq_of_le (show z≤j - 1 by omega) with h | rfl
   ·exact (hA z (j - 1) z1 h (by omega)).trans h9
   ·exact h9
  intro x y hx hxy hy
  unfold jx
  by_cases x1:j<x
  ·rw[if_pos (show j<x∧x≤i by omega),if_pos (show j<y∧y≤i by omega)]
   exact hA (x - 1) (y - 1) (by omega) (by omega) (by omega)
  ·by_cases x2:x=j
   ·rw[if_neg (show ¬(j<x∧x≤i) by omega),if_pos x2,if_pos (show j<y∧y≤i by omega)]
    exact .inl (j4 (y - 1) (by omega) (by omega))
   ·rw[if_neg (show ¬(j<x∧x≤i) by omega),if_neg x2]
    by_cases y1:j<y
    ·rw[if_pos (show j<y∧y≤i by omega)];exact hA x (y - 1) hx (by omega) (by omega)
    ·by_cases y2:y=j
     ·rw[if_neg (show ¬(j<y∧y≤i) by omega),if_pos y2];exact hlow x hx (by omega)
     ·rw[if_neg (show ¬(j<y∧y≤i) by omega),if_neg y2];exact hA x y hx hxy (by omega)
theorem JU (s:State)(n:Nat)(hn:n≤1000000)(a b:Nat)(hab:a≤b)(hb:b≤n)(A:Nat→Int)(hok:∀k,k<n→okX s (A k))(hord:∀i j,a≤i→i<j→j<b→A i<A j) :
  ∃A',sr (mk n A) (a:Int) (b:Int) s=some (mk n A')∧lF A' A a b∧ib A' A a b∧tw s A' a b:=by
 have key:∀(u i:Nat) (A1:Nat→Int),i+u=b→a≤i→lF A1 A a i→ib A1 A a i→tw s A1 a i→∃A',mI (mk n A) (a:Int) (b:Int) s ((a:Int),(b:Int),(i:Int),mk n A1)=some (.inr (mk n A'))∧lF A' A a b∧ib A' A a b∧tw s A' a b:=by
  intro u
  induction u with
  | zero=>
   intro i A1 h1 h2 h3 h4 h5
   obtain rfl:i=b:=by omega
   refine⟨A1,?_,h3,h4,h5⟩
   rw[wc,kv]
   simp only[decide_eq_false (Int.lt_irrefl _),cond_false]
  | succ u ih=>
   intro i A1 h1 h2 h3 h4 h5
   have hok1:∀k,k<n→okX s (A1 k):=fun k hk=>by
    by_cases h:a≤k∧k<i
    ·obtain⟨k',p1,p2,p3⟩:=h4.1 k h.1 h.2
     rw[p3];exact hok k' (by omega)
    ·rw[h3 k (by omega)];exact hok k hk
   have hstep:∃A2,mI (mk n A) (a:Int) (b:Int) s ((a:Int),(b:Int),(i:Int),mk n A1)=mI (mk n A) (a:Int) (b:Int) s ((a:Int),(b:Int),((i+1:Nat):Int),mk n A2)∧lF A2 A a (i+1)∧ib A2 A a (i+1)∧tw s A2 a (i+1):=by
    have hS:∀A2,lj (mk n A) (a:Int) (b:Int) s ((a:Int),(b:Int),(i:Int),mk n A1) ((i:Int),mk n A1)=some (.inr (mk n A2))→mI (mk n A) (a:Int) (b:Int) s ((a:Int),(b:Int),(i:Int),mk n A1)=mI (mk n A) (a:Int) (b:Int) s ((a:Int),(b:Int),((i+1:Nat):Int),mk n A2):=fun A2 h=>by
     rw[wc,kv]
     simp only[show decide ((i:Int)<(b:Int))=true from decide_eq_true (by omega),cond_true,h,eL,nX (show i≤1000000000 by omega)]
    rcases Nat.lt_or_eq_of_le h2 with hai | rfl
    ·obtain⟨j,j1,j2,j3,j4⟩:=W7 s n hn (mk n A) (a:Int) (b:Int) a b i hai (by omega) ((a:Int),(b:Int),(i:Int),mk n A1) rfl A1 hok1 h5 (fun k k1 k2=>by
      obtain⟨k',p1,p2,p3⟩:=h4.1 k k1 k2
      rw[p3,h3 i (by omega)]
      exact hord k' i p1 (by omega) (by omega))
     refine⟨jx A1 i j,hS _ j3,fun k hk=>?_,ib.trans (B:=A1) ⟨fun k k1 k2=>?_,fun k k1 k2=>?_⟩ (h4.widen h3 (Nat.le_refl _) (by omega)),j4⟩
     ·rw[←h3 k (by omega)]
      unfold jx
      repeat' split
      all_goals first | omega | exact congrArg A1 (by omega) | rfl
     ·unfold jx
      by_cases q1:j<k∧k≤i
      ·exact⟨k - 1,by omega,by omega,by rw[if_pos q1]⟩
      ·by_cases q2:k=j
       ·exact⟨i,by omega,by omega,by rw[if_neg q1,if_pos q2]⟩
       ·exact⟨k,by omega,by omega,by rw[if_neg q1,if_neg q2]⟩
     ·unfold jx
      by_cases q1:k=i
      ·exact⟨j,by omega,by omega,by rw[if_neg (by omega),if_pos rfl,q1]⟩
      ·by_cases q2:j≤k
       ·exact⟨k+1,by omega,by omega,by rw[if_pos (by omega)];congr 1⟩
       ·exact⟨k,by omega,by omega,by rw[if_neg (by omega),if_neg (by omega)]⟩
    ·refine⟨A1,hS _ ?_,fun k hk=>h3 k (by omega),h4.widen h3 (Nat.le_refl _) (by omega),fun x y _ _ _=>by omega⟩
     rw[wd,kw]
     simp only[show decide ((a:Int)>(a:Int))=false from decide_eq_false (Int.lt_irrefl _),cond_false,eL]
   obtain⟨A2,e,q1,q2,q3⟩:=hstep
   obtain⟨A',e',p1,p2,p3⟩:=ih (i+1) A2 (by omega) (by omega) q1 q2 q3
   exact⟨A',e.trans e',p1,p2,p3⟩
 unfold sr
 rw[nX (show a≤1000000000 by omega)]
 rcases Nat.lt_or_eq_of_le hab with h | rfl
 ·obtain⟨A',e,p1,p2,p3⟩:=key (b - (a+1)) (a+1) A (by omega) (by omega) (fun k _=>rfl) ib.refl (fun x y _ _ _=>by omega)
  refine⟨A',?_,p1,p2,p3⟩
  rw[e,ch,dG,dG,Nat.beq_refl]
  rfl
 ·refine⟨A,?_,fun k _=>rfl,ib.refl,fun x y _ _ _=>by omega⟩
  rw[wc,kv]
  simp only[show decide (((a+1:Nat):Int)<(a:Int))=false from decide_eq_false (by omega),cond_false,ch,dG,Nat.beq_refl,cond_true]
theorem SO (s:State)(n:Nat)(hn:n≤24)(A:Nat→Int)(hok:∀k,k<n→okX s (A k))(hord:∀i j,i<j→j<n→A i<A j) :
  ∃A',v8 (mk n A) s=some (mk n A')∧ib A' A 0 n∧tw s A' 0 n:=by
 unfold v8
 have hl:len (mk n A)=(n:Int):=by unfold len;rw[dG]
 rw[hl]
 suffices h:∃A',Dd (mk n A) (n:Int) s=some (mk n A')∧ib A' A 0 n∧tw s A' 0 n by
  obtain⟨A',e,h1,h2⟩:=h
  refine⟨A',?_,h1,h2⟩
  rw[e,Option.bind_some,dG,dG,Nat.beq_refl]
  rfl
 unfold Dd
 by_cases h20:n<20
 ·obtain⟨A',e,p1,p2,p3⟩:=JU s n (by omega) 0 n (Nat.zero_le _) (Nat.le_refl _) A hok (fun i j _ h1 h2=>hord i j h1 h2)
  refine⟨A',?_,p2,p3⟩
  rw[we,kx]
  simp only[show decide ((20:Int)≤(n:Int))=false from decide_eq_false (by omega),cond_false,ch]
  rw[show sr (mk n A) 0 (n:Int) s=_ from e,Option.bind_some,dG,dG,Nat.beq_refl,cond_true,ru,jr]
  simp only[show decide ((20:Int)<(n:Int))=false from decide_eq_false (by omega),cond_false,ch,dG,Nat.beq_refl,cond_true]
 ·obtain⟨A1,e1,p1,p2,p3⟩:=JU s n (by omega) 0 20 (Nat.zero_le _) (by omega) A hok (fun i j _ h1 h2=>hord i j h1 (by omega))
  have hok1:∀k,k<n→okX s (A1 k):=fun k hk=>by
   by_cases h:k<20
   ·obtain⟨k',q1,q2,q3⟩:=p2.1 k (Nat.zero_le _) h
    rw[q3];exact hok k' (by omega)
   ·rw[p1 k (by omega)];exact hok k hk
  obtain⟨A2,e2,r1,r2,r3⟩:=JU s n (by omega) 20 n (by omega) (Nat.le_refl _) A1 hok1 (fun i j h0 h1 h2=>by rw[p1 i (by omega),p1 j (by omega)];exact hord i j h1 h2)
  have hok2:∀k,k<n→okX s (A2 k):=fun k hk=>by
   by_cases h:20≤k
   ·obtain⟨k',q1,q2,q3⟩:=r2.1 k h hk
    rw[q3];exact hok1 k' (by omega)
   ·rw[r1 k (by omega)];exact hok1 k hk
  have s2:ib A2 A 0 n:=(r2.widen r1 (Nat.zero_le _) (Nat.le_refl _)).trans (p2.widen p1 (Nat.le_refl _) (by omega))
  have hla:uY (mk n A) (n:Int) s (0,20,mk n A)=some (.inr ((n:Int),20,mk n A1)):=by
   rw[we,kx]
   simp only[show decide ((20:Int)≤(n:Int))=true from decide_eq_true (by omega),cond_true]
   rw[show sr (mk n A) 0 20 s=_ from e1,Option.bind_some,dG,dG,Nat.beq_refl,cond_true,we,kx]
   simp only[show ac ((20:Int)+20)=40 from by decide,show decide ((40:Int)≤(n:Int))=false from decide_eq_false (by omega),cond_false]
  rw[hla,ch]
  simp only[]
  rw[show sr (mk n A1) 20 (n:Int) s=_ from e2,Option.bind_some,dG,dG,Nat.beq_refl,cond_true]
  by_cases h20':n=20
  ·refine⟨A2,?_,s2,fun i j h0 h1 h2=>?_⟩
   ·rw[ru,jr]
    simp only[show decide ((20:Int)<(n:Int))=false from decide_eq_false (by omega),cond_false,ch,dG,Nat.beq_refl,cond_true]
   ·rw[r1 i (by omega),r1 j (by omega)];exact p3 i j h0 h1 (by omega)
  ·obtain⟨A3,e3,t1,t2,t3⟩:=acR s n (by omega) n 0 20 n A2 (by omega) (by omega) (by omega) (Nat.le_refl _) hok2
    (fun i j h0 h1 h2=>by rw[r1 i (by omega),r1 j (by omega)];exact p3 i j h0 h1 h2) r3
    (fun i j h0 h1 h2 h3 _=>by
     obtain⟨i',a1,a2,a3⟩:=p2.1 i (Nat.zero_le _) h1
     obtain⟨j',b1,b2,b3⟩:=r2.1 j h2 h3
     rw[r1 i (by omega),a3,b3,p1 j' (by omega)]
     exact hord i' j' (by omega) b2)
   refine⟨A3,?_,t2.trans s2,t3⟩
   have hlc:∀u7:Int×Int×List Int,u7.1=(n:Int)→va (mk n A) (n:Int) s u7 (20,mk n A2) (0,ac (2*20),mk n A2)=some (.inr (0,mk n A2)):=fun u7 hu=>by
    rw[Ry,oB,hu]
    simp only[show ac ((2:Int)*20)=40 from by decide,show decide ((40:Int)≤(n:Int))=false from decide_eq_false (by omega),cond_false]
   have hlb:uZ (mk n A) (n:Int) s ((n:Int),20,mk n A1) (20,mk n A2)=some (.inr (mk n A3)):=by
    rw[ru,jr]
    simp only[show decide ((20:Int)<(n:Int))=true from decide_eq_true (by omega),cond_true]
    rw[hlc _ rfl,eL]
    simp only[show ac ((0:Int)+20)=20 from by decide,show decide ((20:Int)<(n:Int))=true from decide_eq_true (by omega),cond_true]
    rw[show Jk (mk n A2) 0 20 (n:Int) s=_ from e3,Option.bind_some,dG,dG,Nat.beq_refl,cond_true,eL,ru,jr]
    simp only[show ac ((20:Int)*2)=40 from by decide,show decide ((40:Int)<(n:Int))=false from decide_eq_false (by omega),cond_false]
   rw[hlb,ch,dG,dG,Nat.beq_refl]
   rfl
end Sy
namespace Sy
theorem abo (l:List Int):mk l.length (fun k=>(l[k]?).getD 0)=l:=by
 apply List.ext_getElem?
 intro k
 by_cases h:k<l.length
 ·rw[vF h,List.getElem?_eq_getElem h];rfl
 ·rw[List.getElem?_eq_none (by rw[dG];omega),List.getElem?_eq_none (by omega)]
theorem acC {s:State}{n:Nat}{A:Nat→Int}(h:tw s A 0 n):(mk n A).Pairwise (T s):=by
 rw[List.pairwise_iff_getElem]
 intro i j hi hj hij
 rw[dG] at hi hj
 have e1:(mk n A)[i]=A i:=Option.some.inj (by rw[←List.getElem?_eq_getElem,vF hi])
 have e2:(mk n A)[j]=A j:=Option.some.inj (by rw[←List.getElem?_eq_getElem,vF hj])
 rw[e1,e2]
 exact h i j (Nat.zero_le _) hij hj
theorem aax {n:Nat}{A B:Nat→Int}(h:ib A B 0 n){x:Int}:x∈mk n A↔x∈mk n B:=by
 rw[Xg,Xg]
 constructor
 ·rintro⟨k,hk,rfl⟩
  obtain⟨k',_,h2,h3⟩:=h.1 k (Nat.zero_le _) hk
  exact⟨k',h2,h3.symm⟩
 ·rintro⟨k,hk,rfl⟩
  obtain⟨k',_,h2,h3⟩:=h.2 k (Nat.zero_le _) hk
  exact⟨k',h2,h3.symm⟩
theorem WA {s:State}:∀{a b:List Int},a.Pairwise (T s)→b.Pairwise (T s)→(∀x,x∈a↔x∈b)→a=b
 | [],[],_,_,_=>rfl
 | [],y::b,_,_,h=>by have:=(h y).2 (by simp);simp at this
 | x::a,[],_,_,h=>by have:=(h x).1 (by simp);simp at this
 | x::a,y::b,ha,hb,h=>by
  rw[List.pairwise_cons] at ha hb
  have hxy:x=y:=by
   rcases List.mem_cons.1 ((h x).1 (by simp)) with h1 | h1
   ·exact h1
   ·rcases List.mem_cons.1 ((h y).2 (by simp)) with h2 | h2
    ·exact h2.symm
    ·exact ((ha.1 y h2).trans (hb.1 x h1)).irrefl.elim
  subst hxy
  rw[WA ha.2 hb.2 fun z=>?_]
  constructor
  ·intro hz
   rcases List.mem_cons.1 ((h z).1 (List.mem_cons_of_mem _ hz)) with h1 | h1
   ·subst h1;exact (ha.1 z hz).irrefl.elim
   ·exact h1
  ·intro hz
   rcases List.mem_cons.1 ((h z).2 (List.mem_cons_of_mem _ hz)) with h1 | h1
   ·subst h1;exact (hb.1 z hz).irrefl.elim
   ·exact h1
theorem aaz (s : State)(l : List Int)(hn : l.length ≤ 24)(hok : ∀ x ∈ l,okX s x)(hord : l.Pairwise (· < ·)) : ∃ r,v8 l s=some r ∧ r.length=l.length ∧ r.Pairwise (T s) ∧ ∀ x,x ∈ r ↔ x ∈ l:=by
  obtain ⟨A',e,h1,h2⟩:=SO s l.length hn (fun k=>(l[k]?).getD 0)
    (fun k hk=>by rw [List.getElem?_eq_getElem hk]; exact hok _ (List.getElem_mem hk))
    (fun i j hij hj=>by rw [List.getElem?_eq_getElem hj,List.getElem?_eq_getElem (by omega)]; exact List.pairwise_iff_getElem.1 hord i j (by omega) hj hij)
  rw [abo] at e
  refine ⟨_,e,dG,acC h2,fun x=>?_⟩
  rw [aax h1,abo]
theorem KW (s:State)(l:List Int)(k:Int)(hl:l.length≤1000)(hok:∀x∈l,okX s x)(hk:okX s k):∀i,i≤l.length→(∀j (hj:j<l.length),i≤j→due s k<due s l[j])→∃i',i'≤l.length∧pV s l k (i:Int)=some (.inr (i':Int))∧(∀j (hj:j<l.length),i'≤j→due s k<due s l[j])∧(∀h:0<i',∃h2:i' - 1<l.length,¬due s k<due s l[i' - 1])
 | 0,_,h=>by
  refine⟨0,Nat.zero_le _,?_,h,fun h=>absurd h (Nat.lt_irrefl _)⟩
  rw[GJ,l5]
  rfl
 | i+1,hi,h=>by
  have hi1:i<l.length:=by omega
  have ho:=hok _ (List.getElem_mem hi1)
  have hst:pV s l k ((i+1:Nat):Int)=bif decide (due s k<due s l[i]) then pV s l k (i:Int) else some (.inr ((i+1:Nat):Int)):=by
   rw[GJ,l5]
   unfold due
   unfold okX at ho hk
   cases h1:aE s.Duties l[i] with
   | none=>rw[h1] at ho;cases ho
   | some d=>
    cases h2:aE s.Duties k with
    | none=>rw[h2] at hk;cases hk
    | some e=>
     simp only[show decide (((i+1:Nat):Int)>0)=true from decide_eq_true (by omega),cond_true,qq (show 1≤i+1 by omega) (show i+1≤1000000000 by omega),Nat.add_sub_cancel,bX,List.getElem?_eq_getElem hi1,Option.bind_some,h1,h2,eL]
  rw[hst]
  cases hd:decide (due s k<due s l[i]) with
  | false=>
   rw[decide_eq_false_iff_not] at hd
   exact⟨i+1,hi,rfl,h,fun _=>⟨hi1,hd⟩⟩
  | true=>
   rw[decide_eq_true_eq] at hd
   refine KW s l k hl hok hk i (by omega) fun j hj hij=>?_
   rcases Nat.lt_or_eq_of_le hij with h3 | rfl
   ·exact h j hj h3
   ·exact hd
theorem XH {l:List Int}{i:Nat}(h:i≤l.length):lD l (i:Int) (len l)=some (l.drop i):=by
 unfold lD len
 rw[if_pos (by omega)]
 congr 1
 rw[Int.toNat_natCast,Int.toNat_natCast,List.take_of_length_le (by rw[List.length_drop];exact Nat.le_refl _)]
theorem DU {b:Nat}{xs ys:List Int}(h:(xs.length+ys.length)*b≤1099511627776)(h2:xs.length+ys.length≤1099511627776):iX b xs ys=some (xs++ys):=by
 unfold iX
 rw[if_pos ⟨h,h2⟩]
theorem aau (s:State)(l:List Int)(k:Int)(hl:l.length≤1000)(hok:∀x∈l,okX s x∧x<k)(hk:okX s k)(hs:l.Pairwise (T s)):∃r,wh s l k=some r∧r.Pairwise (T s)∧(∀x,x∈r↔x∈l∨x=k)∧r.length=l.length+1:=by
 obtain⟨i,i1,i2,i3,i4⟩:=KW s l k hl (fun x hx=>(hok x hx).1) hk l.length (Nat.le_refl _) (fun j hj h=>by omega)
 unfold wh
 rw[show len l=((l.length:Nat):Int) from rfl,i2,ch]
 have l1:=List.length_take (i:=i) (l:=l)
 have l2:=List.length_drop (i:=i) (l:=l)
 have s1:lD l 0 (i:Int)=some (l.take i):=by
  unfold lD
  rw[if_pos (by omega)]
  congr 1
 rw[s1,Option.bind_some,DU (by simp only[List.length_nil];omega) (by simp only[List.length_nil];omega),Option.bind_some,DU (by simp only[List.length_append,List.length_nil,List.length_cons];omega) (by simp only[List.length_append,List.length_nil,List.length_cons];omega),Option.bind_some,show (((l.length:Nat):Int))=len l from rfl,XH i1,Option.bind_some,DU (by simp only[List.length_append,List.length_nil,List.length_cons];omega) (by simp only[List.length_append,List.length_nil,List.length_cons];omega)]
 have hlow:∀x∈l.take i,T s x k:=fun x hx=>by
  obtain⟨j,hj,rfl⟩:=List.mem_iff_getElem.1 hx
  rw[l1] at hj
  rw[List.getElem_take]
  obtain⟨h2,h3⟩:=i4 (by omega)
  have h4:due s l[j]≤due s l[i - 1]:=by
   rcases Nat.lt_or_eq_of_le (show j≤i - 1 by omega) with h | h
   ·exact (List.pairwise_iff_getElem.1 hs j (i - 1) (by omega) h2 h).le
   ·subst h;exact Int.le_refl _
  by_cases h5:due s l[j]=due s k
  ·exact .inr ⟨h5,(hok _ (List.getElem_mem (by omega))).2⟩
  ·exact .inl (by omega)
 have hhigh:∀x∈l.drop i,T s k x:=fun x hx=>by
  obtain⟨j,hj,rfl⟩:=List.mem_iff_getElem.1 hx
  rw[l2] at hj
  rw[List.getElem_drop]
  exact .inl (i3 (i+j) (by omega) (by omega))
 refine⟨_,rfl,?_,fun x=>?_,?_⟩
 ·simp only[List.nil_append]
  rw[List.pairwise_append,List.pairwise_append]
  refine⟨⟨hs.sublist (List.take_sublist _ _),by simp,fun x hx y hy=>?_⟩,hs.sublist (List.drop_sublist _ _),fun x hx y hy=>?_⟩
  ·rw[List.mem_singleton] at hy;subst hy;exact hlow x hx
  ·rcases List.mem_append.1 hx with h | h
   ·exact (hlow x h).trans (hhigh y hy)
   ·rw[List.mem_singleton] at h;subst h;exact hhigh y hy
 ·simp only[List.nil_append,List.mem_append,List.mem_singleton]
  have:x∈l↔x∈l.take i∨x∈l.drop i:=by rw[←List.mem_append,List.take_append_drop]
  rw[this]
  constructor
  ·rintro ((h | h) | h)
   ·exact .inl (.inl h)
   ·exact .inr h
   ·exact .inl (.inr h)
  ·rintro ((h | h) | h)
   ·exact .inl (.inl h)
   ·exact .inr h
   ·exact .inl (.inr h)
 ·simp only[List.length_append,List.length_nil,List.length_cons];omega
def openB (c:Contract)(s:State)(fr to:Int)(k:Nat):Bool:=match s.Duties[k]? with
 | some d=>(match aE c.Clauses d.Clause with
  | some e=>(d.Status==1)&&((decide (fr<0)||(e.Party==fr))&&(decide (to<0)||(e.Other==to)))
  | none=>false)
 | none=>false
theorem ok_nat {s:State}{k:Nat}(h:k<s.Duties.length):okX s (k:Int):=by unfold okX;rw[bX,List.getElem?_eq_getElem h];rfl
theorem spec_open (c:Contract)(s:State)(fr to:Int)(hd:s.Duties.length≤24)(hcl:∀k (h:k<s.Duties.length),∃e,aE c.Clauses s.Duties[k].Clause=some e) :
  ∃r,Dj c s fr to=some r∧r.Pairwise (T s)∧(∀x,x∈r↔∃i,i<s.Duties.length∧openB c s fr to i=true∧x=(i:Int))∧r.length≤24:=by
 obtain⟨y,⟨r,rfl,r1,r2,r3⟩,h⟩:=iz (L:=fun i (l:List Int)=>lm c s fr to ((i:Int),l)) s.Duties.length
  (fun n l=>l.Pairwise (T s)∧(∀x,x∈l↔∃i,i<n∧openB c s fr to i=true∧x=(i:Int))∧l.length≤n)
  (fun y=>∃r,y=.inr r∧r.Pairwise (T s)∧(∀x,x∈r↔∃i,i<s.Duties.length∧openB c s fr to i=true∧x=(i:Int))∧r.length≤24) (s:=[])
  (by
   rintro n l hn ⟨j1,j2,j3⟩
   have he:=List.getElem?_eq_getElem hn
   obtain⟨e,hce⟩:=hcl n hn
   have hst:lm c s fr to ((n:Int),l)=bif openB c s fr to n then (wh s l (n:Int)).bind fun r=>lm c s fr to (((n+1:Nat):Int),r) else lm c s fr to (((n+1:Nat):Int),l):=by
    rw[GF,l4]
    simp only[bQ,decide_eq_true hn,cond_true,bX,he,Option.bind_some,hce,eg,cV (show n<9223372036854775807 by omega),openB]
    cases s.Duties[n].Status==1<;>cases decide (fr<0)<;>cases e.Party==fr<;>cases decide (to<0)<;>cases e.Other==to<;>simp[cj]<;>cases wh s l (n:Int)<;>rfl
   cases hb:openB c s fr to n with
   | false=>
    refine .inl ⟨l,⟨j1,fun x=>?_,by omega⟩,by rw[hst,hb];rfl⟩
    rw[j2]
    constructor
    ·rintro⟨i,h1,h2⟩;exact⟨i,by omega,h2⟩
    ·rintro⟨i,h1,h2,h3⟩
     rcases Nat.lt_or_eq_of_le (Nat.le_of_lt_succ h1) with h4 | rfl
     ·exact⟨i,h4,h2,h3⟩
     ·rw[hb] at h2;cases h2
   | true=>
    obtain⟨r,e1,r1,r2,r3⟩:=aau s l (n:Int) (by omega) (fun x hx=>by
     obtain⟨i,h1,h2,rfl⟩:=(j2 x).1 hx
     exact⟨ok_nat (by omega),by omega⟩) (ok_nat hn) j1
    refine .inl ⟨r,⟨r1,fun x=>?_,by omega⟩,by rw[hst,hb,cond_true,e1];rfl⟩
    rw[r2,j2]
    constructor
    ·rintro (⟨i,h1,h2⟩ | rfl)
     ·exact⟨i,by omega,h2⟩
     ·exact⟨n,by omega,hb,rfl⟩
    ·rintro⟨i,h1,h2,h3⟩
     rcases Nat.lt_or_eq_of_le (Nat.le_of_lt_succ h1) with h4 | rfl
     ·exact .inl ⟨i,h4,h2,h3⟩
     ·exact .inr h3)
  (by
   rintro l ⟨j1,j2,j3⟩
   refine⟨.inr l,⟨l,rfl,j1,j2,by omega⟩,?_⟩
   show lm c s fr to ((s.Duties.length:Int),l)=_
   rw[GF,l4]
   simp only[bQ,decide_eq_false (Nat.lt_irrefl _),cond_false]) ⟨List.Pairwise.nil,fun x=>by simp,by simp⟩
 refine⟨r,?_,r1,r2,r3⟩
 unfold Dj
 rw[show lm c s fr to (0,[])=_ from h]
 rfl
theorem KS (p : Nat→Bool) : ∀ n,(jz p n).Pairwise (· < ·) ∧ ∀ x ∈ jz p n,∃ i,i < n ∧ p i=true ∧ x=(i : Int)
  | 0=>⟨List.Pairwise.nil,fun x hx=>by simp [jz] at hx⟩
  | n + 1=>by
    obtain ⟨h1,h2⟩:=KS p n
    rw [jz]
    have hm : ∀ x ∈ (bif p n then [(n : Int)] else []),x=(n : Int) ∧ p n=true:=fun x hx=>by
      cases hp : p n with
      | true=>rw [hp,cond_true,List.mem_singleton] at hx; exact ⟨hx,rfl⟩
      | false=>rw [hp] at hx; simp at hx
    refine ⟨?_,fun x hx=>?_⟩
    · rw [List.pairwise_append]
      refine ⟨h1,by cases p n <;> simp,fun x hx y hy=>?_⟩
      obtain ⟨i,q1,_,rfl⟩:=h2 x hx
      rw [(hm y hy).1]
      omega
    · rcases List.mem_append.1 hx with h | h
      · obtain ⟨i,q1,q2,q3⟩:=h2 x h
        exact ⟨i,by omega,q2,q3⟩
      · exact ⟨n,by omega,(hm x h).2,(hm x h).1⟩
theorem KT (p:Nat→Bool):∀{n i:Nat},i<n→p i=true→(i:Int)∈jz p n
 | n+1,i,h,hp=>by
  rw[jz,List.mem_append]
  rcases Nat.lt_or_eq_of_le (Nat.le_of_lt_succ h) with h1 | rfl
  ·exact .inl (KT p h1 hp)
  ·exact .inr (by rw[hp];simp)
end Sy
theorem BE {c:Contract}{s:State}{names:List ae}(f:StF c s names)(k:Nat)(h:k<s.Duties.length):∃e,aE c.Clauses s.Duties[k].Clause=some e:=by
 have h1:=f.dut k h
 unfold qC at h1
 rw[List.getElem?_eq_getElem h] at h1
 simp only[Bool.and_eq_true] at h1
 have h2:=h1.1
 unfold wD at h2
 cases hg:aE c.Clauses s.Duties[k].Clause with
 | none=>rw[hg] at h2;cases h2
 | some e=>exact⟨e,rfl⟩
theorem xn (k0:Int):∀(n:Nat) (k:Int) (s:ae),k<((10 ^ n:Nat):Int)→k<9223372036854775808→s.length+n≤100→∃r,uH k0 (k,s)=some (.inr r)∧r.length≤100
 | 0,k,s,hk,hb,hs=>by
  rw[Fd,lT,decide_eq_false (show ¬k>0 by simp at hk;omega),cond_false]
  exact⟨_,rfl,by show s.length≤100;omega⟩
 | n+1,k,s,hk,hb,hs=>by
  rw[Fd,lT]
  by_cases h:k>0
  ·rw[decide_eq_true h,cond_true]
   unfold DW
   have h10:k.tdiv 10=k / 10:=Int.tdiv_eq_ediv_of_nonneg (by omega)
   rw[if_pos (by simp only[List.length_map,List.length_cons,List.length_nil];omega),Option.bind_some,h10,dW (by omega) (by omega)]
   refine xn k0 n (k / 10) _ ?_ (by omega) (by simp only[List.length_append,List.length_map,List.length_cons,List.length_nil];omega)
   rw[Nat.pow_succ] at hk
   omega
  ·rw[decide_eq_false h,cond_false]
   exact⟨_,rfl,by show s.length≤100;omega⟩
theorem Lb (k:Int)(h:k≤4611686018427387904):∃r,pa k=some r:=by
 unfold pa
 by_cases h0:k≤0
 ·rw[decide_eq_true h0,cond_true]
  exact⟨_,rfl⟩
 ·rw[decide_eq_false h0,cond_false]
  obtain⟨r,hr,hl⟩:=xn k 19 k [] (by omega) (by omega) (by decide)
  rw[hr]
  show ∃r',(DW [109] r).bind (fun s5=>some s5)=some r'
  unfold DW
  rw[if_pos (by simp only[List.length_cons,List.length_nil];omega),Option.bind_some]
  exact⟨_,rfl⟩
noncomputable def qW (k:Int):ae:=(pa k).getD []
theorem lA {k:Int}(h:k≤4611686018427387904):pa k=some (qW k):=by
 obtain⟨r,hr⟩:=Lb k h
 unfold qW
 rw[hr]
 rfl
noncomputable def yZ (k:Int)(e:ae):Int×ae:=(k+1,qW k)
theorem zf (a:List ae)(ha:a.length≤1048576){k:Int}(h0:0≤k)(hM:k≤4000000000000000000):∃k' a',xK a k=some (k',a')∧a'.length=a.length∧k≤k'∧k'≤k+1048576:=by
 have h1:=kO (g:=yZ) (fun k x=>by show k≤k+1;omega) (xs:=a) (k:=k)
 have h2:=sN (g:=yZ) (c:=1) (fun k x=>by show k+1≤k+(1:Nat);omega) (xs:=a) (k:=k)
 refine⟨(dC yZ k a).1,(dC yZ k a).2,?_,mw,h1,by omega⟩
 unfold xK
 rw[D4 (L:=uF a k) (g:=yZ) (M:=4611686018427387904) (fun k x=>by show k≤k+1;omega) ?_ ?_ h0 (by omega) (by omega)]
 ·show (bif Nat.beq (dC yZ k a).2.length a.length then some ((dC yZ k a).1,(dC yZ k a).2) else none)=_
  rw[mw,Nat.beq_refl]
  rfl
 ·intro k i xs e h0 h1 hi he
  have h1':k+1≤4611686018427387904:=h1
  obtain⟨hi',_⟩:=List.getElem?_eq_some_iff.1 he
  have w1:ac (k+1)=k+1:=dW (by omega) (by omega)
  rw[Fa,lS,bQ,decide_eq_true hi',cond_true,lA (by omega),Option.bind_some,bX,he,Option.bind_some,mB,w1,cV (by omega)]
  rfl
 ·intro k i xs hi
  rw[Fa,lS,bQ,decide_eq_false (show ¬i<xs.length by omega),cond_false]
def RV (a:List Condition):Prop:=∀k:Int,0≤k→k+((3*aP a:Nat):Int)≤4611686018427387000→∃k' a',Rh a k=some (k',a')∧a'.length=a.length∧k≤k'∧k'≤k+((3*aP a:Nat):Int)
theorem Sx (a:List Condition)(ha:a.length≤1048576)(ih:∀x∈a,RV x.Parts):RV a:=by
 intro k h0 hM
 rw[abw]
 unfold uC
 obtain⟨y,⟨k',a',rfl,e1,e2,e3⟩,h2⟩:=iz (L:=fun i (s:Int×List Condition)=>mH (aJ lP) a k (s.1,(i:Int),s.2)) a.length
  (fun i s=>k≤s.1∧s.1≤k+((3*aP (a.take i):Nat):Int)∧s.2.length=a.length∧∀j,i≤j→s.2[j]?=a[j]?)
  (fun y=>∃k' a',y=.inr (k',a')∧a'.length=a.length∧k≤k'∧k'≤k+((3*aP a:Nat):Int)) (s:=(k,a))
  (by
   rintro i ⟨q,xs⟩ hi ⟨j1,j2,j3,j4⟩
   simp only at j1 j2 j3 j4
   have h3:=se a i hi
   have h4:=mZ a (i+1)
   have h5:=fQ a[i]
   have he:xs[i]?=some a[i]:=by rw[j4 i (Nat.le_refl _)];exact List.getElem?_eq_getElem hi
   have hi':i<xs.length:=by omega
   obtain⟨k',p',f1,f2,f3,f4⟩:=ih _ (List.getElem_mem hi) (q+3) (by omega) (by omega)
   have w1:ac (q+1)=q+1:=dW (by omega) (by omega)
   have w2:ac (q+1+1)=q+2:=by rw[dW (by omega) (by omega)];omega
   have w3:ac (q+2+1)=q+3:=by rw[dW (by omega) (by omega)];omega
   refine .inl ⟨(k',xs.set i ⟨q,qW (q+1),q+2,p'⟩),⟨by simp only;omega,by simp only;omega,by simpa using j3,fun j hj=>?_⟩,?_⟩
   ·rw[List.getElem?_set_ne (by omega)];exact j4 j (by omega)
   ·show mH (aJ lP) a k (q,(i:Int),xs)=_
    rw[EX,ku]
    simp only[bQ,decide_eq_true hi',cond_true,eg,bX,mB,he,Option.bind_some,w1,w2,w3,lA (show q+1≤4611686018427387904 by omega),List.getElem?_set_self,List.length_set,hi',decide_true,List.set_set]
    rw[show aJ lP (a[i].Parts,q+3)=_ from f1,Option.bind_some]
    simp only[f2,Nat.beq_refl,cond_true,cV (show i<9223372036854775807 by omega)])
  (by
   rintro⟨q,xs⟩ ⟨j1,j2,j3,j4⟩
   simp only at j1 j2 j3 j4
   rw[List.take_length] at j2
   refine⟨_,⟨q,xs,rfl,j3,j1,j2⟩,?_⟩
   show mH (aJ lP) a k (q,(a.length:Int),xs)=_
   rw[EX,ku]
   simp only[bQ,decide_eq_false (show ¬a.length<xs.length by omega),cond_false])
  ⟨Int.le_refl k,by simp[aP],rfl,fun _ _=>rfl⟩
 refine⟨k',a',?_,e1,e2,e3⟩
 rw[show mH (aJ lP) a k (k,0,a)=some (.inr (k',a')) from h2,ch]
 simp only[e1,Nat.beq_refl,cond_true]
theorem Sz (c:Condition):aP c.Parts≤1048576→RV c.Parts:=by
 refine gm (P:=fun c=>aP c.Parts≤1048576→RV c.Parts) ?_ c
 intro c ih h
 have hl:=ii c.Parts
 refine Sx c.Parts (by omega) fun x hx=>ih x hx ?_
 obtain⟨i,hi,rfl⟩:=List.mem_iff_getElem.1 hx
 have h1:=afl hi
 have h2:=fQ c.Parts[i]
 omega
theorem Ol (a:List Clause)(ha:iK gR a){k:Int}(h0:0≤k)(hM:k≤1099511627776):∃k' a',Cm a k=some (k',a')∧a'.length=a.length∧k≤k'∧k'≤k+4000000*1048576:=by
 have hal:a.length≤1048576:=ha.1
 unfold Cm
 obtain⟨y,⟨k',a',rfl,e1,e2,e3⟩,h2⟩:=iz (L:=fun i (s:Int×List Clause)=>oc a k (s.1,(i:Int),s.2)) a.length
  (fun i s=>k≤s.1∧s.1≤k+4000000*(i:Int)∧s.2.length=a.length∧∀j,i≤j→s.2[j]?=a[j]?)
  (fun y=>∃k' a',y=.inr (k',a')∧a'.length=a.length∧k≤k'∧k'≤k+4000000*1048576) (s:=(k,a))
  (by
   rintro i ⟨q,xs⟩ hi ⟨j1,j2,j3,j4⟩
   simp only at j1 j2 j3 j4
   have he:xs[i]?=some a[i]:=by rw[j4 i (Nat.le_refl _)];exact List.getElem?_eq_getElem hi
   have hi':i<xs.length:=by omega
   have hs:=(gy _).1 (ha.2 _ (List.getElem_mem hi)).2.2.2.2.2.2.1
   have hnc:=hs.2.2.2.2
   obtain⟨k',p',f1,f2,f3,f4⟩:=Sz a[i].When hnc (q+9) (by omega) (by omega)
   have w1:ac (q+1)=q+1:=dW (by omega) (by omega)
   have w2:ac (q+1+1)=q+2:=by rw[dW (by omega) (by omega)];omega
   have w3:ac (q+2+1)=q+3:=by rw[dW (by omega) (by omega)];omega
   have w4:ac (q+3+1)=q+4:=by rw[dW (by omega) (by omega)];omega
   have w5:ac (q+4+1)=q+5:=by rw[dW (by omega) (by omega)];omega
   have w6:ac (q+5+1)=q+6:=by rw[dW (by omega) (by omega)];omega
   have w7:ac (q+6+1)=q+7:=by rw[dW (by omega) (by omega)];omega
   have w8:ac (q+7+1)=q+8:=by rw[dW (by omega) (by omega)];omega
   have w9:ac (q+8+1)=q+9:=by rw[dW (by omega) (by omega)];omega
   have wa:ac (k'+1)=k'+1:=dW (by omega) (by omega)
   have wb:ac (k'+1+1)=k'+2:=by rw[dW (by omega) (by omega)];omega
   refine .inl ⟨(k'+2,xs.set i ⟨qW q,q+1,q+2,qW (q+3),q+4,q+5,⟨q+6,qW (q+7),q+8,p'⟩,k',qW (k'+1)⟩),⟨by simp only;omega,by simp only;omega,by simpa using j3,fun j hj=>?_⟩,?_⟩
   ·rw[List.getElem?_set_ne (by omega)];exact j4 j (by omega)
   ·show oc a k (q,(i:Int),xs)=_
    rw[EW,lO]
    simp only[bQ,decide_eq_true hi',cond_true,eg,bX,mB,he,Option.bind_some,w1,w2,w3,w4,w5,w6,w7,w8,w9,lA (show q≤4611686018427387904 by omega),lA (show q+3≤4611686018427387904 by omega),lA (show q+7≤4611686018427387904 by omega),List.getElem?_set_self,List.length_set,hi',decide_true,List.set_set,f1,f2,Nat.beq_refl,wa,wb,lA (show k'+1≤4611686018427387904 by omega),cV (show i<9223372036854775807 by omega)])
  (by
   rintro⟨q,xs⟩ ⟨j1,j2,j3,j4⟩
   simp only at j1 j2 j3 j4
   refine⟨_,⟨q,xs,rfl,j3,j1,by omega⟩,?_⟩
   show oc a k (q,(a.length:Int),xs)=_
   rw[EW,lO]
   simp only[bQ,decide_eq_false (show ¬a.length<xs.length by omega),cond_false])
  ⟨Int.le_refl k,by omega,rfl,fun _ _=>rfl⟩
 refine⟨k',a',?_,e1,e2,e3⟩
 rw[show oc a k (k,0,a)=some (.inr (k',a')) from h2,ch]
 simp only[e1,Nat.beq_refl,cond_true]
theorem Lc (c:Contract)(hc:fH c){k:Int}(h0:0≤k)(hM:k≤1000000):∃k',Cp c k=some k'∧k≤k'∧k'≤5000000000000:=by
 unfold Cp
 obtain⟨k1,a1,e1,l1,b1,b2⟩:=zf c.Parties hc.1.1 h0 (by omega)
 obtain⟨k2,a2,e2,l2,b3,b4⟩:=Ol c.Clauses hc.2 (k:=k1) (by omega) (by omega)
 refine⟨k2,?_,by omega,?_⟩
 ·rw[e1,Option.bind_some]
  simp only[l1,Nat.beq_refl,cond_true,e2,Option.bind_some,l2]
 ·omega
noncomputable def jK (k:Int)(e:Int):Int×Int:=(k+1,k)
theorem KM (a:List Int)(ha:a.length≤1048576){k:Int}(h0:0≤k)(hM:(dC jK k a).1≤4611686018427387904):xJ a k=some (dC jK k a):=by
 unfold xJ
 rw[D4 (L:=uE a k) (g:=jK) (M:=4611686018427387904) (fun k x=>by show k≤k+1;omega) ?_ ?_ h0 hM (by omega)]
 ·show (bif Nat.beq (dC jK k a).2.length a.length then some ((dC jK k a).1,(dC jK k a).2) else none)=_
  rw[mw,Nat.beq_refl]
  rfl
 ·intro k i xs e h0 h1 hi he
  have h1':k+1≤4611686018427387904:=h1
  obtain⟨hi',_⟩:=List.getElem?_eq_some_iff.1 he
  have w1:ac (k+1)=k+1:=dW (by omega) (by omega)
  rw[E5,lR,bQ,decide_eq_true hi',cond_true]
  simp only[eg,bX,mB,he,Option.bind_some,w1,List.getElem?_set_self,List.length_set,hi',List.set_set,cV (show i<9223372036854775807 by omega)]
  rfl
 ·intro k i xs hi
  rw[E5,lR,bQ,decide_eq_false (show ¬i<xs.length by omega),cond_false]
theorem WY (a:List Int)(ha:a.length≤1048576){k:Int}(h0:0≤k)(hM:(dC jK k a).1≤4611686018427387904):xF (dC jK k a).2 k=some (dC jK k a).1:=by
 unfold xF
 rw[aac (H:=uB (dC jK k a).2 k) (g:=jK) (M:=4611686018427387904) (a:=(dC jK k a).2) (xs:=a) (fun k x=>by show k≤k+1;omega) ?_ ?_ h0 hM (by omega) rfl]
 ·rfl
 ·intro k' i e h0 h1 hi he
  have h1':k'+1≤4611686018427387904:=h1
  obtain⟨hi',_⟩:=List.getElem?_eq_some_iff.1 he
  have w1:ac (k'+1)=k'+1:=dW (by omega) (by omega)
  rw[ET,lN,bQ,decide_eq_true hi',cond_true]
  simp only[bX,he,Option.bind_some,w1,cV (show i<9223372036854775807 by omega),jK,bne_self_eq_false,beq_self_eq_true,Bool.not_true,cond_false]
 ·intro k' i hi
  rw[ET,lN,bQ,decide_eq_false (by omega),cond_false]
theorem aan (a:List Int)(ha:a.length≤1048576):1≤(dC jK 1 a).1∧(dC jK 1 a).1≤4611686018427387904:=by
 have h1:=kO (g:=jK) (fun k x=>by show k≤k+1;omega) (xs:=a) (k:=1)
 have h2:=sN (g:=jK) (c:=1) (fun k x=>by show k+1≤k+(1:Nat);omega) (xs:=a) (k:=1)
 omega
noncomputable def nF (k:Int)(e:Duty):Int×Duty:=(k+4,⟨k,k+1,k+2,k+3⟩)
theorem Sv (a:List Duty)(ha:a.length≤1048576){k:Int}(h0:0≤k)(hM:(dC nF k a).1≤4611686018427387904):Cr a k=some (dC nF k a):=by
 unfold Cr
 rw[D4 (L:=uD a k) (g:=nF) (M:=4611686018427387904) (fun k x=>by show k≤k+4;omega) ?_ ?_ h0 hM (by omega)]
 ·show (bif Nat.beq (dC nF k a).2.length a.length then some ((dC nF k a).1,(dC nF k a).2) else none)=_
  rw[mw,Nat.beq_refl]
  rfl
 ·intro k i xs e h0 h1 hi he
  have h1':k+4≤4611686018427387904:=h1
  obtain⟨hi',_⟩:=List.getElem?_eq_some_iff.1 he
  have w1:ac (k+1)=k+1:=dW (by omega) (by omega)
  have w2:ac (k+1+1)=k+2:=by rw[dW (by omega) (by omega)];omega
  have w3:ac (k+2+1)=k+3:=by rw[dW (by omega) (by omega)];omega
  have w4:ac (k+3+1)=k+4:=by rw[dW (by omega) (by omega)];omega
  rw[E2,lQ,bQ,decide_eq_true hi',cond_true]
  simp only[eg,bX,mB,he,Option.bind_some,w1,w2,w3,w4,List.getElem?_set_self,List.length_set,hi',List.set_set,cV (show i<9223372036854775807 by omega)]
  rfl
 ·intro k i xs hi
  rw[E2,lQ,bQ,decide_eq_false (show ¬i<xs.length by omega),cond_false]
theorem Sw (s:State)(hs:mE s){k:Int}(h0:0≤k)(hM:k≤1000000000000000000):∃k',Cu s k=some k'∧k≤k':=by
 unfold Cu
 obtain⟨k1,a1,e1,l1,b1,b2⟩:=zf s.Facts hs.2.1.1 h0 (by omega)
 have hd:=hs.2.2.1.1
 have d1:=kO (g:=nF) (fun k x=>by show k≤k+4;omega) (xs:=s.Duties) (k:=k1)
 have d2:=sN (g:=nF) (c:=4) (fun k x=>by show k+4≤k+(4:Nat);omega) (xs:=s.Duties) (k:=k1)
 have hb:=hs.2.2.2.1.1
 have c1:=kO (g:=jK) (fun k x=>by show k≤k+1;omega) (xs:=s.Balances) (k:=(dC nF k1 s.Duties).1)
 have c2:=sN (g:=jK) (c:=1) (fun k x=>by show k+1≤k+(1:Nat);omega) (xs:=s.Balances) (k:=(dC nF k1 s.Duties).1)
 refine⟨(dC jK (dC nF k1 s.Duties).1 s.Balances).1,?_,by omega⟩
 rw[e1,Option.bind_some]
 simp only[l1,Nat.beq_refl,cond_true,Sv s.Duties hd (k:=k1) (by omega) (by omega),KM s.Balances hb (k:=(dC nF k1 s.Duties).1) (by omega) (by omega),Option.bind_some,mw]
namespace Sy
theorem pick_two (s:State)(p:Nat→Bool)(hd:s.Duties.length≤24){r:List Int}(r1:r.Pairwise (T s))(r2:∀x,x∈r↔∃i,i<s.Duties.length∧p i=true∧x=(i:Int)) :
  v8 (jz p s.Duties.length) s=some r∧r.length=(jz p s.Duties.length).length:=by
 obtain⟨a1,a2⟩:=KS p s.Duties.length
 have a3:=zn p s.Duties.length
 obtain⟨r',e,q1,q2,q3⟩:=aaz s (jz p s.Duties.length) (by omega) (fun x hx=>by
  obtain⟨i,h1,_,rfl⟩:=a2 x hx
  exact ok_nat h1) a1
 have:r'=r:=WA q2 r1 fun x=>by
  rw[q3,r2]
  constructor
  ·intro hx
   exact a2 x hx
  ·rintro⟨i,h1,h2,rfl⟩
   exact KT p h1 h2
 subst this
 exact⟨e,q1⟩
end Sy
noncomputable def kN (s:State)(day:Int)(x:Int):Bool:=decide (Sy.due s x<day)
theorem Xo (c:Contract)(s:State)(day:Int){names:List ae}(f:StF c s names){r:List Int}(r1:r.Pairwise (Sy.T s))(r2:∀x,x∈r↔∃i,i<s.Duties.length∧Sy.openB c s (-1) (-1) i=true∧x=(i:Int)):Ny c s day=some (r.filter (kN s day)):=by
 have hd:=f.dl
 have e1:=aas (L:=fun i out=>qM c s day ((i:Int),out)) s.Duties.length (by omega) (fun i=>Sy.openB c s (-1) (-1) i&&(kN s day) (i:Int))
  (by
   intro i out hi ho
   have he:=List.getElem?_eq_getElem hi
   obtain⟨e,hc⟩:=BE f i hi
   show qM c s day ((i:Int),out)=_
   rw[Kt,nL]
   have hdu:Sy.due s (i:Int)=s.Duties[i].Due:=by unfold Sy.due;rw[bX,he]
   unfold Qz
   simp only[bQ,decide_eq_true hi,cond_true,bX,he,hc,Option.bind_some,eg,Sy.openB,kN,hdu,cV (show i<9223372036854775807 by omega)]
   simp only[show decide ((-1:Int)<0)=true from rfl,Bool.true_or,Bool.and_true,Bool.true_and]
   cases s.Duties[i].Status==1<;>cases decide (s.Duties[i].Due<day)<;>simp[cj]<;>cases iX 8 out [(i:Int)]<;>rfl)
  (by
   intro out
   show qM c s day ((s.Duties.length:Int),out)=_
   rw[Kt,nL]
   simp only[bQ,decide_eq_false (Nat.lt_irrefl _),cond_false])
 obtain⟨q1,q2⟩:=Sy.pick_two s (fun i=>Sy.openB c s (-1) (-1) i&&(kN s day) (i:Int)) hd (r:=r.filter (kN s day)) (r1.filter _) (fun x=>by
  rw[List.mem_filter,r2]
  constructor
  ·rintro⟨⟨i,h1,h2,rfl⟩,h3⟩
   exact⟨i,h1,by rw[h2,h3];rfl,rfl⟩
  ·rintro⟨i,h1,h2,rfl⟩
   rw[Bool.and_eq_true] at h2
   exact⟨⟨i,h1,h2.1,rfl⟩,h2.2⟩)
 unfold Ny
 rw[show qM c s day (0,[])=_ from e1,ch,q1,Option.bind_some,q2,Nat.beq_refl]
 rfl
theorem acI (c:Contract)(s:State)(day:Int){r:List Int}(hl:r.length≤24)(hr:∀x∈r,Sy.okX s x):mK c s day r (0,[])=some (.inr (r.filter (kN s day))):=by
 obtain⟨y,h1,h2⟩:=iz (L:=fun i (out:List Int)=>mK c s day r ((i:Int),out)) r.length
  (fun i out=>out=(r.take i).filter (kN s day)) (fun y=>y=.inr (r.filter (kN s day))) (s:=[])
  (by
   rintro i out hi rfl
   have he:=List.getElem?_eq_getElem hi
   obtain⟨d,hd⟩:=Option.isSome_iff_exists.1 (show (aE s.Duties r[i]).isSome=true from hr _ (List.getElem_mem hi))
   have hdu:Sy.due s r[i]=d.Due:=by unfold Sy.due;rw[hd]
   have hlen:((r.take i).filter (kN s day)).length≤24:=by
    have:=List.length_filter_le (kN s day) (r.take i)
    rw[List.length_take] at this
    omega
   refine .inl ⟨_,rfl,?_⟩
   show mK c s day r ((i:Int),(r.take i).filter (kN s day))=mK c s day r (((i+1:Nat):Int),(r.take (i+1)).filter (kN s day))
   rw[GC,l3,List.take_add_one,he,List.filter_append]
   simp only[bQ,decide_eq_true hi,cond_true,bX,he,hd,Option.bind_some,cV (show i<9223372036854775807 by omega),Option.toList_some,List.filter_cons,List.filter_nil,kN,hdu]
   cases decide (d.Due<day) with
   | false=>simp[cj]
   | true=>
    rw[cond_true,sD (by omega) (by omega)]
    simp[cj])
  (by
   rintro out rfl
   refine⟨_,rfl,?_⟩
   show mK c s day r ((r.length:Int),_)=_
   rw[GC,l3,List.take_length]
   simp only[bQ,decide_eq_false (Nat.lt_irrefl _),cond_false])
  (by simp)
 rw[←h1]
 exact h2
theorem afs (c:Contract)(s:State)(day:Int)(hc:fH c)(hs:mE s):∃r,Dh c s day=some r∧Kp c s day=some r∧iK jC r.1:=by
 obtain⟨b,g1,g2,g3⟩:=afy c s hc hs
 unfold Dh Kp
 simp only[g1,g2,Option.bind_some,pW,oP,nj,ly]
 cases b with
 | false=>exact⟨_,rfl,rfl,by simp[iK]⟩
 | true=>
  obtain⟨h,names,n1,n2,f⟩:=g3 rfl
  cases hf:fg day 0 36524 with
  | false=>exact⟨_,rfl,rfl,by simp[iK]⟩
  | true=>
   obtain⟨r,e,r1,r2,r3⟩:=Sy.spec_open c s (-1) (-1) f.dl (BE f)
   have e2:=acI c s day r3 (fun x hx=>by
    obtain⟨i,h1,_,rfl⟩:=(r2 x).1 hx
    exact Sy.ok_nat h1)
   simp only[Bool.not_true,cond_false,ch,e,e2,Xo c s day f r1 r2,Option.bind_some]
   have:=List.length_filter_le (kN s day) r
   exact⟨_,rfl,rfl,⟨by show (r.filter (kN s day)).length≤1048576;omega,fun _ _=>trivial⟩⟩
theorem wP (c:Contract)(hc:YE c)(s:State)(hs:D9 s)(p:Int)(hp:pk p):fS c s p=some true:=by
 unfold fS
 obtain⟨r1,e1,q1⟩:=Qh c hc (l:=1048576) (by decide) (by decide)
 rw[e1,Option.bind_some]
 rcases q1 with q1 | ⟨q1,p1,s1⟩
 ·rw[decide_eq_true q1,cond_true]
 rw[decide_eq_false (by omega),cond_false]
 obtain⟨r2,e2,q2⟩:=aaF s hs (l:=r1) (by omega) (by omega)
 rw[e2,Option.bind_some]
 rcases q2 with q2 | ⟨q2,p2,s2⟩
 ·rw[decide_eq_true q2,cond_true]
 rw[decide_eq_false (by omega),cond_false]
 obtain⟨v,g1,g2,s3⟩:=afs c s p s1 s2
 obtain⟨km,m1,m2,m3⟩:=Lc c s1 (k:=1) (by decide) (by decide)
 obtain⟨kn,n1,n2⟩:=Sw s s2 (k:=km) (by omega) (by omega)
 obtain⟨m4,m5⟩:=aan v.1 s3.1
 simp only[Qi c s1,aaH s s2,Option.bind_some,g1,g2,P5 c s1,Z4 s s2,QH v.1 s3,eg,bne_self_eq_false,beq_self_eq_true,Bool.not_true,cond_false,m1,n1,KM v.1 s3.1 (by decide) m5,WY v.1 s3.1 (by decide) m5,mw,Nat.beq_refl,cond_true,decide_eq_false (show ¬kn<0 by omega),decide_eq_false (show ¬(dC jK 1 v.1).1<0 by omega),bd]
end Go.Ln
