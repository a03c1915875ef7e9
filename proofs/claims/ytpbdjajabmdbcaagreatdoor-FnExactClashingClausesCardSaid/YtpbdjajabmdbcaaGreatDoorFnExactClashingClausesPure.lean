/-
  The plain law.
-/
import Derived.Test.YtpbdjajabmdbcaaGreatDoorFnExactClashingClausesLib
import Derived.Sort.AssemblyPlain
import Derived.Sort.LotD4
import Derived.Sort.LotD5
set_option linter.unusedVariables false
set_option linter.unusedSimpArgs false
set_option maxRecDepth 100000
namespace Go.Ln
open Go
theorem jM {α:Type}{b:Nat}{xs:List α}{y:α}(h:(xs.length+1)*b≤1099511627776)(h2:xs.length+1≤1099511627776):fA b xs [y]=some (xs++[y]):=by
 unfold fA
 rw[if_pos]
 simp only[List.length_cons,List.length_nil,lN,Nat.zero_add]
 omega
namespace StrL
theorem lt_irrefl:∀(a:ac),Op.bytesLess a a=false
 | []=>rfl
 | x::xs=>by
  have h:¬x<x:=by simp
  simp[Op.bytesLess,h,lt_irrefl xs]
theorem lt_trans:∀(a b c:ac),Op.bytesLess a b=true→Op.bytesLess b c=true→Op.bytesLess a c=true
 | _,[],_,h,_=>by simp[Op.bytesLess] at h
 | _,_::_,[],_,h=>by simp[Op.bytesLess] at h
 | [],_::_,_::_,_,_=>rfl
 | x::xs,y::ys,z::zs,h1,h2=>by
  simp only[Op.bytesLess,Bool.or_eq_true,decide_eq_true_eq,Bool.and_eq_true,beq_iff_eq] at h1 h2 ⊢
  rcases h1 with h1 | ⟨h1,h3⟩<;>rcases h2 with h2 | ⟨h2,h4⟩
  ·exact .inl (UInt8.lt_trans h1 h2)
  ·subst h2;exact .inl h1
  ·subst h1;exact .inl h2
  ·subst h1;subst h2;exact .inr ⟨rfl,lt_trans xs ys zs h3 h4⟩
def Lt (a b:ac):Prop:=Op.bytesLess a b=true
theorem tri (a b:ac):Lt a b∨a=b∨Lt b a:=by
 have:=JH a b
 unfold Lt
 cases h:Op.bytesLess a b
 ·cases h2:a==b
  ·rw[h,h2] at this;exact .inr (.inr this.symm)
  ·exact .inr (.inl (by simpa using h2))
 ·exact .inl rfl
theorem Lt.irrefl {a:ac}(h:Lt a a):False:=by unfold Lt at h;rw[lt_irrefl] at h;cases h
theorem Lt.trans {a b c:ac}(h:Lt a b)(h2:Lt b c):Lt a c:=lt_trans a b c h h2
theorem Lt.asymm {a b:ac}(h:Lt a b)(h2:Lt b a):False:=(h.trans h2).irrefl
def Le (a b:ac):Prop:=¬Lt b a
theorem Le.lt_or {a b:ac}(h:Le a b):Lt a b∨a=b:=by
 rcases tri a b with h1 | h1 | h1
 ·exact .inl h1
 ·exact .inr h1
 ·exact (h h1).elim
theorem Le.trans {a b c:ac}(h:Le a b)(h2:Le b c):Le a c:=by
 intro h3
 rcases h.lt_or with h4 | rfl
 ·rcases h2.lt_or with h5 | rfl
  ·exact (h4.trans h5).asymm h3
  ·exact h h3
 ·exact h2 h3
theorem Lt.le {a b:ac}(h:Lt a b):Le a b:=fun h2=>h.asymm h2
theorem Le.le_lt {a b c:ac}(h:Le a b)(h2:Lt b c):Lt a c:=by
 rcases h.lt_or with h3 | rfl
 ·exact h3.trans h2
 ·exact h2
end StrL
namespace StrL
def gl (a:List ac)(j:Nat):Bool:=match j with
 | 0=>true
 | j+1=>match a[j]?,a[j+1]? with
  | some x,some y=>y != x
  | _,_=>true
def dd (a:List ac):List ac:=ld (gl a) a a.length
theorem Fl {a:List ac}{k:Nat}(h:∀j x y,j+1<k→a[j]?=some x→a[j+1]?=some y→y≠x)(hn:k≤a.length):ld (gl a) a k=a.take k:=by
 have e:∀n,n≤k→ld (gl a) a n=a.take n:=by
  intro n
  induction n with
  | zero=>intro _;rfl
  | succ n ih=>
   intro hk
   have h1:n<a.length:=by omega
   have hx:=List.getElem?_eq_getElem h1
   rw[AO ?_ hx,ih (by omega),List.take_add_one,hx]
   ·rfl
   ·cases n with
    | zero=>rfl
    | succ n=>
     have h2:=List.getElem?_eq_getElem (show n<a.length by omega)
     simp only[gl,h2,hx]
     simpa using h n _ _ (by omega) h2 hx
 exact e k (Nat.le_refl k)
theorem LV {s z:List ac}{x j:Nat}(h1:x≤j)(h2:j<s.length):ui z (0+Int.toNat (x:Int)) (Int.toNat (len s) - Int.toNat (x:Int)) ((j:Int) - (x:Int))=z[j]?:=by
 unfold ui
 simp only[len,Int.toNat_natCast,Nat.zero_add]
 rw[if_pos (by omega),show x+((j:Int) - (x:Int)).toNat=j by omega]
theorem Jj (s:List ac)(x:Nat)(hl:s.length≤1048576)(hx:x<s.length)(h0:ld (gl s) s (x+1)=s.take x):∃(i:Nat) (z:List ac),ke s (x:Int) ((x:Int),1,s)=some (.inr ((i:Int),z))∧z.length=s.length∧i≤z.length∧z.take i=dd s:=by
 have hD:=U9 (L:=fun q:Int×Int×List ac=>ke s (x:Int) (q.1,q.2.1 - (x:Int),q.2.2)) (keep:=gl s) (a:=s) (i0:=x)
  (by
   intro i j z y hz hi hij hy hy2 hy3
   obtain⟨h1,_⟩:=List.getElem?_eq_some_iff.1 hy
   have h2:=List.getElem?_eq_getElem (show j - 1<s.length by omega)
   have h4:=List.getElem?_eq_getElem (show i<z.length by omega)
   show ke s (x:Int) ((i:Int),(j:Int) - (x:Int),z)=bif gl s j then ke s (x:Int) (((i+1:Nat):Int),((j+1:Nat):Int) - (x:Int),z.set i y) else ke s (x:Int) ((i:Int),((j+1:Nat):Int) - (x:Int),z)
   have w1:aj ((j:Int) - (x:Int) - 1)=((j - 1:Nat):Int) - (x:Int):=by rw[eC (by omega) (by omega)];omega
   have w2:aj ((j:Int) - (x:Int)+1)=((j+1:Nat):Int) - (x:Int):=by rw[eC (by omega) (by omega)];omega
   have c1:decide ((j:Int) - (x:Int)<(((Int.toNat (len s) - Int.toNat (x:Int)):Nat):Int))=true:=decide_eq_true (by simp only[len,Int.toNat_natCast];omega)
   rw[B7,kH]
   simp only[c1,cond_true,w1,w2,LV (show x≤j by omega) h1,LV (show x≤j - 1 by omega) (show j - 1<s.length by omega),hy2,hy3,h2,Option.bind_some,bE,mt,h4,b9 (show i<9223372036854775807 by omega)]
   have hk:gl s j=(y != s[j - 1]):=by
    cases j with
    | zero=>omega
    | succ j=>
     simp only[gl,hy,show j+1 - 1=j by omega] at h2 ⊢
     simp only[h2]
   rw[hk]
   show _=bif !(y==s[j - 1]) then _ else _
   cases y==s[j - 1]<;>rfl)
  (by
   intro i j z hz hi hij hj
   show ke s (x:Int) ((i:Int),(j:Int) - (x:Int),z)=_
   have c1:decide ((j:Int) - (x:Int)<(((Int.toNat (len s) - Int.toNat (x:Int)):Nat):Int))=false:=decide_eq_false (by simp only[len,Int.toNat_natCast];omega)
   rw[B7,kH]
   simp only[c1,cond_false])
  h0 hx
 simp only[show ((x+1:Nat):Int) - (x:Int)=1 by omega] at hD
 exact hD
theorem wn (s:List ac)(hl:s.length≤1048576):∀(n k:Nat),k+n=s.length→1≤k→(∀j x y,j+1<k→s[j]?=some x→s[j+1]?=some y→y≠x)→∃y,qa s (k:Int)=some y∧(y=.inl (dd s)∨y=.inr (dd s))
 | 0,k,hk,h1,h=>by
  refine⟨.inr s,?_,.inr ?_⟩
  ·rw[B6,kG,bp,decide_eq_false (by omega),cond_false]
  ·unfold dd
   rw[Fl (k:=s.length) (fun j x y hj=>h j x y (by omega)) (Nat.le_refl _),List.take_length]
 | n+1,k,hk,h1,h=>by
  have h2:k<s.length:=by omega
  have e1:=List.getElem?_eq_getElem h2
  have e2:=List.getElem?_eq_getElem (show k - 1<s.length by omega)
  have w1:aj ((k:Int) - 1)=((k - 1:Nat):Int):=by rw[eC (by omega) (by omega)];omega
  rw[B6,kG,bp,decide_eq_true h2,cond_true,w1,bE,bE,e1,e2,Option.bind_some,Option.bind_some,b9 (by omega)]
  by_cases hq:s[k]=s[k - 1]
  ·rw[beq_iff_eq.2 hq,cond_true]
   have e3:gD s.length (k:Int) (len s)=some ():=by unfold gD;rw[if_pos (by simp only[len];omega)]
   have hno:gl s k=false:=by
    cases k with
    | zero=>omega
    | succ k=>
     simp only[show k+1 - 1=k by omega] at e2 hq
     simp only[gl,e1,e2,hq,bne_self_eq_false]
   obtain⟨i,z,e,hz,hi,ht⟩:=Jj s k hl h2 (by rw[Fq hno,Fl h (by omega)])
   rw[e3,Option.bind_some,e,iO]
   refine⟨.inl (dd s),?_,.inl rfl⟩
   rw[←ht]
   exact Yp (c:=([]:ac)) (F:=fun p19=>some (Sum.inl p19)) hi
  ·rw[beq_eq_false_iff_ne.2 hq,cond_false]
   refine wn s hl n (k+1) (by omega) (by omega) fun j x y hj hx hy=>?_
   by_cases hj2:j+1<k
   ·exact h j x y hj2 hx hy
   ·obtain rfl:k=j+1:=by omega
    simp only[show j+1 - 1=j by omega] at e2 hq
    rw[e2] at hx
    rw[e1] at hy
    cases hx
    cases hy
    exact hq
theorem compact_val (s:List ac)(hl:s.length≤1048576):zP s=some (dd s):=by
 unfold zP
 by_cases h:len s<2
 ·rw[decide_eq_true h,cond_true]
  have h':s.length<2:=by simp only[len] at h;omega
  unfold dd
  rw[Fl (k:=s.length) (fun j x y hj=>by omega) (Nat.le_refl _),List.take_length]
 ·rw[decide_eq_false h,cond_false]
  have h':¬s.length<2:=by simp only[len] at h;omega
  obtain⟨y,hy,hq⟩:=wn s hl (s.length - 1) 1 (by omega) (Nat.le_refl _) (fun j x y hj=>by omega)
  rw[show qa s 1=some y from hy]
  rcases hq with rfl | rfl<;>rfl
end StrL
namespace StrL
theorem F9 {a:List ac}(hs:a.Pairwise Le):∀n,n≤a.length→(ld (gl a) a n).Pairwise Lt∧∀x,x∈ld (gl a) a n↔x∈a.take n
 | 0,_=>by
  have e:ld (gl a) a 0=[]:=rfl
  rw[e]
  exact⟨List.Pairwise.nil,fun x=>by simp⟩
 | n+1,hn=>by
  obtain⟨h1,h2⟩:=F9 hs n (by omega)
  have hlt:n<a.length:=by omega
  have hx:=List.getElem?_eq_getElem hlt
  have hle:∀y∈a.take n,Le y a[n]:=by
   intro y hy
   obtain⟨i,hi,rfl⟩:=List.mem_iff_getElem.1 hy
   rw[List.length_take] at hi
   rw[List.getElem_take]
   exact List.pairwise_iff_getElem.1 hs i n (by omega) hlt (by omega)
  cases hk:gl a n with
  | true=>
   rw[AO hk hx]
   have hstrict:∀y∈a.take n,Lt y a[n]:=by
    intro y hy
    cases n with
    | zero=>simp at hy
    | succ j=>
     have h3:=List.getElem?_eq_getElem (show j<a.length by omega)
     have hne:a[j+1]≠a[j]:=by
      simp only[gl,h3,hx] at hk
      simpa using hk
     have hj:Le a[j] a[j+1]:=List.pairwise_iff_getElem.1 hs j (j+1) (by omega) hlt (by omega)
     obtain⟨i,hi,rfl⟩:=List.mem_iff_getElem.1 hy
     rw[List.length_take] at hi
     rw[List.getElem_take]
     have hlt2:Lt a[j] a[j+1]:=hj.lt_or.resolve_right fun e=>hne e.symm
     by_cases e:i=j
     ·subst e;exact hlt2
     ·have:=List.pairwise_iff_getElem.1 hs i j (by omega) (by omega) (by omega)
      exact this.le_lt hlt2
   refine⟨List.pairwise_append.2 ⟨h1,List.pairwise_singleton _ _,fun y hy z hz=>?_⟩,fun x=>?_⟩
   ·rw[List.mem_singleton] at hz
    subst hz
    exact hstrict y ((h2 y).1 hy)
   ·rw[List.take_add_one,hx,List.mem_append,List.mem_append,h2]
    rfl
  | false=>
   rw[Fq hk]
   refine⟨h1,fun x=>?_⟩
   rw[h2,List.take_add_one,hx,List.mem_append]
   constructor
   ·exact .inl
   ·rintro (h | h)
    ·exact h
    ·have e:x=a[n]:=by simpa using h
     subst e
     cases n with
     | zero=>simp[gl] at hk
     | succ j=>
      have h3:=List.getElem?_eq_getElem (show j<a.length by omega)
      simp only[gl,h3,hx] at hk
      have e:a[j+1]=a[j]:=by simpa using hk
      rw[e]
      have:a[j]∈a.take (j+1):=by
       rw[List.mem_iff_getElem]
       exact⟨j,by rw[List.length_take];omega,by rw[List.getElem_take]⟩
      exact this
theorem dd_ok {a:List ac}(hs:a.Pairwise Le):(dd a).Pairwise Lt∧∀x,x∈dd a↔x∈a:=by
 have:=F9 hs a.length (Nat.le_refl _)
 rw[List.take_length] at this
 exact this
theorem asc_uniq:∀{a b:List ac},a.Pairwise Lt→b.Pairwise Lt→(∀x,x∈a↔x∈b)→a=b
 | [],[],_,_,_=>rfl
 | [],y::b,_,_,h=>absurd ((h y).2 (by simp)) (by simp)
 | x::a,[],_,_,h=>absurd ((h x).1 (by simp)) (by simp)
 | x::a,y::b,ha,hb,h=>by
  rw[List.pairwise_cons] at ha hb
  have e:x=y:=by
   have h1:=(h x).1 (by simp)
   have h2:=(h y).2 (by simp)
   rw[List.mem_cons] at h1 h2
   rcases h1 with h1 | h1
   ·exact h1
   ·rcases h2 with h2 | h2
    ·exact h2.symm
    ·exact ((ha.1 y h2).asymm (hb.1 x h1)).elim
  subst e
  rw[asc_uniq ha.2 hb.2 fun z=>?_]
  constructor
  ·intro hz
   have h1:=(h z).1 (List.mem_cons_of_mem _ hz)
   rcases List.mem_cons.1 h1 with e | h1
   ·subst e;exact (ha.1 z hz).irrefl.elim
   ·exact h1
  ·intro hz
   have h1:=(h z).2 (List.mem_cons_of_mem _ hz)
   rcases List.mem_cons.1 h1 with e | h1
   ·subst e;exact (hb.1 z hz).irrefl.elim
   ·exact h1
theorem qC {b:Nat}{xs ys:List ac}(h:(xs.length+ys.length)*b≤1099511627776)(h2:xs.length+ys.length≤1099511627776):fA b xs ys=some (xs++ys):=by
 unfold fA
 rw[if_pos]
 simp only[lN]
 omega
theorem qN (l:List ac)(n:ac)(m:Nat)(hm:m≤l.length)(hl:l.length≤1048576)(h1:∀(j:Nat) x,j<m→l[j]?=some x→Lt x n)(h2:∀x,l[m]?=some x→¬Lt x n):∀(k j:Nat),j+k=m→sS l n (j:Int)=some (.inr (n,(m:Int),l))
 | 0,j,hj=>by
  obtain rfl:j=m:=by omega
  rw[CQ,kO,bp]
  by_cases h:j<l.length
  ·rw[decide_eq_true h,cond_true,bE,List.getElem?_eq_getElem h,Option.bind_some,iO,show Op.bytesLess l[j] n=false from by simpa[Lt] using h2 _ (List.getElem?_eq_getElem h),cond_false]
  ·rw[decide_eq_false h,cond_false,iO,cond_false]
 | k+1,j,hj=>by
  have h:j<l.length:=by omega
  rw[CQ,kO,bp,decide_eq_true h,cond_true,bE,List.getElem?_eq_getElem h,Option.bind_some,iO,show Op.bytesLess l[j] n=true from h1 j _ (by omega) (List.getElem?_eq_getElem h),cond_true,b9 (by omega)]
  exact qN l n m hm hl h1 h2 k (j+1) (by omega)
theorem put_val (l:List ac)(n:ac)(hl:l.length≤1000000)(hs:l.Pairwise Lt):∃r,vJ l n=some r∧r.Pairwise Lt∧(∀x,x∈r↔x∈l∨x=n)∧r.length≤l.length+1:=by
 have key:∃m,m≤l.length∧(∀(j:Nat) x,j<m→l[j]?=some x→Lt x n)∧(∀x,l[m]?=some x→¬Lt x n):=by
  clear hl
  induction l with
  | nil=>exact⟨0,by simp,fun j x hj=>by omega,fun x hx=>by simp at hx⟩
  | cons y l ih=>
   by_cases hy:Lt y n
   ·obtain⟨m,h1,h2,h3⟩:=ih (List.pairwise_cons.1 hs).2
    refine⟨m+1,by simp;omega,fun j x hj hx=>?_,fun x hx=>h3 x (by simpa using hx)⟩
    cases j with
    | zero=>simp at hx;subst hx;exact hy
    | succ j=>exact h2 j x (by omega) (by simpa using hx)
   ·exact⟨0,by simp,fun j x hj=>by omega,fun x hx=>by simp at hx;subst hx;exact hy⟩
 obtain⟨m,hm,h1,h2⟩:=key
 have hlow:∀x∈l.take m,Lt x n:=by
  intro x hx
  obtain⟨i,hi,rfl⟩:=List.mem_iff_getElem.1 hx
  rw[List.length_take] at hi
  rw[List.getElem_take]
  exact h1 i _ (by omega) (List.getElem?_eq_getElem (by omega))
 have hloop:=qN l n m hm (by omega) h1 h2 m 0 (by omega)
 rw[show ((0:Nat):Int)=0 from rfl] at hloop
 unfold vJ
 rw[hloop]
 simp only[fx,bp]
 have s1:gD l.length 0 (m:Int)=some ():=by unfold gD;rw[if_pos (by omega)]
 have s2:gD l.length (m:Int) (len l)=some ():=by unfold gD;rw[if_pos (by simp only[len];omega)]
 have p1:gi l (0+Int.toNat 0) (Int.toNat (m:Int) - Int.toNat 0)=some (l.take m):=by
  unfold gi
  simp only[Int.toNat_zero,Int.toNat_natCast,Nat.zero_add,Nat.sub_zero,List.drop_zero]
  rw[if_pos hm]
 have p2:gi l (0+Int.toNat (m:Int)) (Int.toNat (len l) - Int.toNat (m:Int))=some (l.drop m):=by
  unfold gi
  simp only[Int.toNat_natCast,Nat.zero_add,len]
  rw[if_pos (by omega),List.take_of_length_le (by rw[List.length_drop];omega)]
 have a1:fA 16 ([]:List ac) (l.take m)=some (l.take m):=by rw[qC (by simp only[List.length_nil,List.length_take];omega) (by simp only[List.length_nil,List.length_take];omega)];rfl
 have a2:fA 16 (l.take m) [n]=some (l.take m++[n]):=jM (by rw[List.length_take];omega) (by rw[List.length_take];omega)
 have a3:fA 16 (l.take m++[n]) (l.drop m)=some (l.take m++[n]++l.drop m):=qC (by simp only[List.length_append,List.length_take,List.length_drop,List.length_singleton];omega) (by simp only[List.length_append,List.length_take,List.length_drop,List.length_singleton];omega)
 have hins:(∀x∈l.drop m,Lt n x)→(l.take m++[n]++l.drop m).Pairwise Lt∧(∀x,x∈l.take m++[n]++l.drop m↔x∈l∨x=n)∧(l.take m++[n]++l.drop m).length≤l.length+1:=by
  intro hhi
  have hs2:=hs
  rw[←List.take_append_drop m l,List.pairwise_append] at hs2
  refine⟨List.pairwise_append.2 ⟨List.pairwise_append.2 ⟨hs2.1,List.pairwise_singleton _ _,fun x hx y hy=>?_⟩,hs2.2.1,fun x hx y hy=>?_⟩,fun x=>?_,?_⟩
  ·rw[List.mem_singleton] at hy;subst hy;exact hlow x hx
  ·rcases List.mem_append.1 hx with hx | hx
   ·exact hs2.2.2 x hx y hy
   ·rw[List.mem_singleton] at hx;subst hx;exact hhi y hy
  ·have:x∈l↔x∈l.take m∨x∈l.drop m:=by
    rw[←List.mem_append,List.take_append_drop]
   rw[List.mem_append,List.mem_append,List.mem_singleton,this]
   constructor
   ·rintro ((h | h) | h)
    ·exact .inl (.inl h)
    ·exact .inr h
    ·exact .inl (.inr h)
   ·rintro ((h | h) | h)
    ·exact .inl (.inl h)
    ·exact .inr h
    ·exact .inl (.inr h)
  ·simp only[List.length_append,List.length_take,List.length_drop,List.length_singleton];omega
 by_cases hb:m<l.length
 ·have hx:=List.getElem?_eq_getElem hb
  have hge:=h2 _ hx
  have hrest:∀x∈l.drop (m+1),Lt l[m] x:=by
   intro x hx
   obtain⟨i,hi,rfl⟩:=List.mem_iff_getElem.1 hx
   rw[List.length_drop] at hi
   rw[List.getElem_drop]
   exact List.pairwise_iff_getElem.1 hs m (m+1+i) hb (by omega) (by omega)
  rw[decide_eq_true hb,cond_true,bE,hx,Option.bind_some,fx,xB]
  by_cases he:l[m]=n
  ·rw[decide_eq_true he,cond_true]
   refine⟨l,rfl,hs,fun x=>⟨.inl,?_⟩,by omega⟩
   rintro (h | h)
   ·exact h
   ·rw[h,←he];exact List.getElem_mem hb
  ·rw[decide_eq_false he,cond_false]
   simp only[s1,p1,a1,a2,s2,p2,a3,Option.bind_some]
   refine⟨_,rfl,hins ?_⟩
   intro x hx
   rw[List.drop_eq_getElem_cons hb] at hx
   rcases List.mem_cons.1 hx with rfl | hx
   ·exact (tri n l[m]).resolve_right fun h=>h.elim (fun e=>he e.symm) hge
   ·have h1:Lt n l[m]:=(tri n l[m]).resolve_right fun h=>h.elim (fun e=>he e.symm) hge
    exact h1.trans (hrest x hx)
 ·rw[decide_eq_false hb,cond_false,fx,cond_false]
  simp only[s1,p1,a1,a2,s2,p2,a3,Option.bind_some]
  refine⟨_,rfl,hins ?_⟩
  intro x hx
  rw[List.drop_of_length_le (by omega)] at hx
  cases hx
end StrL
theorem xF {x y:ac}:decide (x≤y)=true↔StrL.Le x y:=by
 unfold StrL.Le StrL.Lt
 rw[Go.Proofs.bytesLess_eq,decide_eq_true_iff,decide_eq_true_iff]
 exact Iff.rfl
theorem TB (l:List ac):(l.mergeSort fun x y=>decide (x≤y)).Pairwise StrL.Le:=by
 have h:=List.pairwise_mergeSort (le:=fun x y:ac=>decide (x≤y)) (fun x y z h1 h2=>by
  rw[xF] at *;exact h1.trans h2) (fun x y=>by
  rw[Bool.or_eq_true,xF,xF]
  rcases StrL.tri x y with h | h | h
  ·exact .inl h.le
  ·subst h;exact .inl fun h=>h.irrefl
  ·exact .inr h.le) l
 exact h.imp fun {x y} h=>xF.1 h
theorem LL (l r:List ac)(hl:l.length≤1048576)(hr:r.Pairwise StrL.Lt)(hm:∀x,x∈r↔x∈l):DK l=some r:=by
 unfold DK tD
 have hl2:(l.mergeSort fun (x y:ac)=>decide (x≤y)).length=l.length:=List.length_mergeSort _
 rw[Nat.ble_eq_true_of_le hl,cond_true,Option.bind_some,hl2,Nat.beq_refl,cond_true,StrL.compact_val _ (by rw[hl2];exact hl),Option.bind_some]
 obtain⟨h1,h2⟩:=StrL.dd_ok (TB l)
 congr 1
 refine StrL.asc_uniq h1 hr fun x=>?_
 rw[h2,hm]
 exact (List.mergeSort_perm l _).mem_iff
theorem AH (b x:Bool):(bif b then x else false)=(b&&x):=by cases b<;>rfl
def gn (x a b:Int):Bool:=decide (x≥a)&&decide (x≤b)
theorem xy (x a b:Int):eQ x a b=some (gn x a b):=by simp only[eQ,gU,AH,gn]
theorem tq (x a b:Int):nU x a b=some (gn x a b):=by simp only[nU,gU,AH,gn]
def kv (c:UInt8):Bool:=(decide (97≤c.toNat)&&decide (c.toNat≤122))||(decide (48≤c.toNat)&&decide (c.toNat≤57))
theorem Q1 (c:UInt8):vL (c.toNat:Int)=some (kv c):=by
 simp only[vL,kv,gU]
 by_cases h1:97≤c.toNat<;>by_cases h2:c.toNat≤122<;>by_cases h3:48≤c.toNat<;>by_cases h4:c.toNat≤57<;>simp[h1,h2,h3,h4,show ((97:Int)≤c.toNat)↔97≤c.toNat by omega,show ((c.toNat:Int)≤122)↔c.toNat≤122 by omega,show ((48:Int)≤c.toNat)↔48≤c.toNat by omega,show ((c.toNat:Int)≤57)↔c.toNat≤57 by omega]
def lM:List ac:=[[116,114,117,101],[102,114,111,109],[110,111,116],[97,110,100],[111,114],[98,111,116,104],[101,105,116,104,101,114],[105,116],[105,110]]
def iG (s:ac):Bool:=match s with
 | []=>false
 | c::r=>decide (r.length<8)&&decide (97≤c.toNat)&&decide (c.toNat≤122)&&s.all kv && !lM.contains s
theorem U8 (b x:Bool):(bif b then b else x)=(b||x):=by cases b<;>rfl
theorem Lj:Aw [116,114,117,101,32,102,114,111,109,32,110,111,116,32,97,110,100,32,111,114,32,98,111,116,104,32,101,105,116,104,101,114,32,105,116,32,105,110] [32]=some lM:=by
 have h:wX [116,114,117,101,32,102,114,111,109,32,110,111,116,32,97,110,100,32,111,114,32,98,111,116,104,32,101,105,116,104,101,114,32,105,116,32,105,110] [32] 0 (-1) 9 ([116,114,117,101,32,102,114,111,109,32,110,111,116,32,97,110,100,32,111,114,32,98,111,116,104,32,101,105,116,104,101,114,32,105,116,32,105,110],0,List.replicate 9 [])=some (.inr ([105,110],8,[[116,114,117,101],[102,114,111,109],[110,111,116],[97,110,100],[111,114],[98,111,116,104],[101,105,116,104,101,114],[105,116],[]])):=
  (i6 (fun a=>(yB _ _ _ _ _ a).1)).2 ⟨20,by decide +kernel⟩
 have e:Aw [116,114,117,101,32,102,114,111,109,32,110,111,116,32,97,110,100,32,111,114,32,98,111,116,104,32,101,105,116,104,101,114,32,105,116,32,105,110] [32]=(bn (wX [116,114,117,101,32,102,114,111,109,32,110,111,116,32,97,110,100,32,111,114,32,98,111,116,104,32,101,105,116,104,101,114,32,105,116,32,105,110] [32] 0 (-1) 9 ([116,114,117,101,32,102,114,111,109,32,110,111,116,32,97,110,100,32,111,114,32,98,111,116,104,32,101,105,116,104,101,114,32,105,116,32,105,110],0,List.replicate 9 [])) fun u12:ac×Int×(List ac)=>(aM u12.2.2 u12.2.1).bind fun e13=>(gD (cS u12.2.2 u12.2.1 u12.1).length 0 (aj (u12.2.1+1))).bind fun s14=>(gi (cS u12.2.2 u12.2.1 u12.1) (0+Int.toNat (0)) (Int.toNat ((aj (u12.2.1+1))) - Int.toNat (0))).bind fun p15=>some p15).bind fun r=>some r:=by rfl
 rw[e,h]
 rfl
theorem Fk (s:ac):oe lM s=some (lM.contains s):=by
 unfold oe vo
 rw[tn (L:=oh lM s) (a:=lM) (p:=fun e=>some (s==e)) (q:=fun e=>s==e) (fun _ _=>rfl) (fun x=>by rw[tJ,jG]<;>rfl) (by decide)]
 cases h:lM.findIdx? (fun e=>s==e) with
 | none=>
  have:lM.contains s=false:=by
   rw[List.findIdx?_eq_none_iff] at h
   rw[Bool.eq_false_iff]
   intro hc
   rw[List.contains_iff_exists_mem_beq] at hc
   obtain⟨w,hw,he⟩:=hc
   rw[h w hw] at he
   cases he
  rw[this]
  rfl
 | some i=>
  have:lM.contains s=true:=by
   rw[List.findIdx?_eq_some_iff_getElem] at h
   obtain⟨hi,he,_⟩:=h
   rw[List.contains_iff_exists_mem_beq]
   exact⟨_,List.getElem_mem hi,he⟩
  rw[this]
  simp
theorem NF (s:ac):(bif s==[116,114,117,101] then s==[116,114,117,101] else bif s==[102,114,111,109] then s==[102,114,111,109] else bif s==[110,111,116] then s==[110,111,116] else bif s==[97,110,100] then s==[97,110,100] else bif s==[111,114] then s==[111,114] else bif s==[98,111,116,104] then s==[98,111,116,104] else bif s==[101,105,116,104,101,114] then s==[101,105,116,104,101,114] else bif s==[105,116] then s==[105,116] else s==[105,110])=lM.contains s:=by
 simp only[U8,lM,List.contains_cons,List.contains_nil,Bool.or_false]
theorem rx (s:ac)(hs:s.length≤1048576):rE s=some (iG s):=by
 unfold rE eQ iG
 simp only[gU,Option.bind_some,NF]
 cases s with
 | nil=>rfl
 | cons c r=>
  have e1:decide (len (c::r)≥1)=true:=decide_eq_true (by simp[len];omega)
  have e2:decide (len (c::r)≤8)=decide (r.length<8):=by simp only[len,List.length_cons];congr 1;apply propext;omega
  have e3:aM (c::r) (0:Int)=some c:=rfl
  have e4:decide ((c.toNat:Int)<97)=!decide (97≤c.toNat):=by rw[←decide_not];congr 1;apply propext;omega
  have e5:decide ((c.toNat:Int)>122)=!decide (c.toNat≤122):=by rw[←decide_not];congr 1;apply propext;omega
  rw[e1,e2,e3,xg (r:=false) (L:=sP (c::r)) (a:=c::r) (p:=fun c=>(vL (c.toNat:Int)).bind fun r=>some (!r)) (q:=fun c=>!kv c) (fun x _=>by rw[Q1];rfl) (fun x=>by rw[Mw,mL];simp only[Option.bind_assoc,Option.bind_some]) (by omega)]
  simp only[cond_true,Option.bind_some,e4,e5]
  have e6:((c::r).any fun c=>!kv c)=!((c::r).all kv):=by rw[List.not_all_eq_any_not]
  rw[e6]
  cases decide (r.length<8)<;>cases decide (97≤c.toNat)<;>cases decide (c.toNat≤122)<;>cases (c::r).all kv<;>cases lM.contains (c::r)<;>rfl
theorem rm (s:ac)(hs:s.length≤1048576):vS s=some (iG s):=by
 unfold vS nU iG
 simp only[gU,Option.bind_some,Lj,Fk]
 cases s with
 | nil=>rfl
 | cons c r=>
  have e1:decide (len (c::r)≥1)=true:=decide_eq_true (by simp[len];omega)
  have e2:decide (len (c::r)≤8)=decide (r.length<8):=by simp only[len,List.length_cons];congr 1;apply propext;omega
  have e3:aM (c::r) (0:Int)=some c:=rfl
  have e4:decide ((c.toNat:Int)<97)=!decide (97≤c.toNat):=by rw[←decide_not];congr 1;apply propext;omega
  have e5:decide ((c.toNat:Int)>122)=!decide (c.toNat≤122):=by rw[←decide_not];congr 1;apply propext;omega
  have hp:∀c:UInt8,(bif decide ((c.toNat:Int)<97) then (bif decide ((c.toNat:Int)<48) then true else decide ((c.toNat:Int)>57)) else (bif decide ((c.toNat:Int)>122) then (bif decide ((c.toNat:Int)<48) then true else decide ((c.toNat:Int)>57)) else false))=!kv c:=by
   intro c
   have f1:decide ((c.toNat:Int)<97)=!decide (97≤c.toNat):=by rw[←decide_not];congr 1;apply propext;omega
   have f2:decide ((c.toNat:Int)>122)=!decide (c.toNat≤122):=by rw[←decide_not];congr 1;apply propext;omega
   have f3:decide ((c.toNat:Int)<48)=!decide (48≤c.toNat):=by rw[←decide_not];congr 1;apply propext;omega
   have f4:decide ((c.toNat:Int)>57)=!decide (c.toNat≤57):=by rw[←decide_not];congr 1;apply propext;omega
   rw[f1,f2,f3,f4]
   unfold kv
   by_cases g1:97≤c.toNat
   ·have g3:48≤c.toNat:=by omega
    have g4:¬c.toNat≤57:=by omega
    simp only[g1,g3,g4,decide_true,decide_false]
    cases decide (c.toNat≤122)<;>rfl
   ·simp only[g1,decide_false]
    cases decide (48≤c.toNat)<;>cases decide (c.toNat≤57)<;>rfl
  rw[e1,e2,e3,xg (r:=false) (L:=vT (c::r)) (a:=c::r) (p:=fun c=>some (!kv c)) (q:=fun c=>!kv c) (fun x _=>rfl) (fun x=>by rw[PF,om];simp only[gU,hp,Option.bind_some]) (by omega)]
  simp only[cond_true,Option.bind_some,e4,e5]
  have e6:((c::r).any fun c=>!kv c)=!((c::r).all kv):=by rw[List.not_all_eq_any_not]
  rw[e6]
  cases decide (r.length<8)<;>cases decide (97≤c.toNat)<;>cases decide (c.toNat≤122)<;>cases (c::r).all kv<;>cases lM.contains (c::r)<;>rfl
theorem ka {ρ υ σ : Type}{L : Nat → σ → Option (ρ ⊕ υ)}(N : Nat)(J : Nat → σ → Prop)(T : ρ ⊕ υ → Prop)(hs : ∀ i s,i < N→J i s→(∃ s',J (i + 1) s' ∧ L i s=L (i + 1) s') ∨ ∃ y,T y ∧ L i s=some y)(he : ∀ s,J N s→∃ y,T y ∧ L N s=some y){s : σ}(h0 : J 0 s) : ∃ y,T y ∧ L 0 s=some y:=by
  have key : ∀ k i s,i + k=N→J i s→∃ y,T y ∧ L i s=some y:=by
    intro k
    induction k with
    | zero => intro i s hi hj; obtain rfl : i = N := by omega
              exact he s hj
    | succ k ih =>
      intro i s hi hj
      rcases hs i s (by omega) hj with ⟨s',h1,h2⟩ | h
      · rw [h2]; exact ih (i + 1) s' (by omega) h1
      · exact h
  exact key N 0 s (by omega) h0
theorem UX {α:Type}{L:Int→Option (Bool⊕Unit)}{a:List α}{f:α→Option Bool}{p:α→Bool}(hf:∀x∈a,f x=some (p x))(hL:∀x,L x=bif decide (x<len a) then (aM a x).bind fun e=>(f e).bind fun r=>bif !r then some (.inl false) else L (aj (x+1)) else some (.inr ()))(hb:a.length<9223372036854775807):L 0=some (if a.all p then .inr () else .inl false):=by
 obtain⟨y,h1,h2⟩:=ka (L:=fun i (_:Unit)=>L (i:Int)) a.length (fun i _=>(a.take i).all p=true) (fun y=>y=if a.all p then .inr () else .inl false) (s:=())
  (by
   intro i _ hi hj
   have hx:=List.getElem?_eq_getElem hi
   rw[show L (i:Int)=_ from hL _,bp,decide_eq_true hi,cond_true,bE,hx,Option.bind_some,hf _ (List.getElem_mem hi),Option.bind_some,b9 (by omega)]
   cases hp:p a[i] with
   | true=>
    refine .inl ⟨(),?_,rfl⟩
    rw[List.take_add_one,hx,List.all_append,hj]
    simp[hp]
   | false=>
    refine .inr ⟨_,?_,rfl⟩
    rw[if_neg]
    intro h
    rw[List.all_eq_true] at h
    rw[h _ (List.getElem_mem hi)] at hp
    cases hp)
  (by
   intro _ hj
   refine⟨_,rfl,?_⟩
   rw[List.take_length] at hj
   rw[show L (a.length:Int)=_ from hL _,bp,decide_eq_false (by omega),cond_false,if_pos hj]) (by simp)
 rw[show L 0=some y from h2,h1]
theorem ml {ρ υ α:Type}{q:α→Bool}{y0 y1:ρ⊕υ}:∀{a:List α} {L:Nat→Option (ρ⊕υ)},(∀(i:Nat) x,a[i]?=some x→L i=bif q x then some y0 else L (i+1))→L a.length=some y1→L 0=some (if a.any q then y0 else y1)
 | [],L,_,he=>by simpa using he
 | x::a,L,hL,he=>by
  rw[hL 0 x rfl,ml (a:=a) (L:=fun i=>L (i+1)) (y0:=y0) (y1:=y1) (fun i z hz=>hL (i+1) z (by simpa using hz)) (by simpa using he),List.any_cons]
  cases q x<;>rfl
def pO (c:Condition):Bool:=
 if c.Op=1 then decide (c.Parts.length=0)&&(decide (c.Name=[])&&decide (c.Day=0))
 else if c.Op=2 then decide (c.Parts.length=0)&&(iG c.Name&&decide (c.Day=0))
 else if c.Op=3 then decide (c.Parts.length=0)&&(decide (c.Name=[])&&gn c.Day 0 36524)
 else if c.Op=4 then decide (c.Parts.length=1)&&(decide (c.Name=[])&&decide (c.Day=0))
 else if c.Op=5∨c.Op=6 then decide (c.Parts.length=2)&&(decide (c.Name=[])&&decide (c.Day=0))
 else false
mutual
def d5:Condition→Bool
 | ⟨a0,a1,a2,a3⟩=>pO ⟨a0,a1,a2,a3⟩&&xm a3
def xm:List Condition→Bool
 | []=>true
 | x::xs=>d5 x&&xm xs
end
theorem yM:∀a,xm a=a.all d5
 | []=>rfl
 | x::xs=>by simp[xm,yM xs]
theorem pe (c:Condition):d5 c=(pO c&&c.Parts.all d5):=by cases c;simp only[d5,yM]
theorem xo {α:Type}{a:List α}{n:Nat}:(len a==(n:Int))=decide (a.length=n):=by
 rw[mU]
 by_cases h:a.length=n
 ·rw[decide_eq_true h,decide_eq_true];simp only[len];omega
 ·rw[decide_eq_false h,decide_eq_false];simp only[len];omega
theorem Q0 (c:Condition)(hn:c.Name.length≤1048576):Aa c=some (pO c):=by
 have l0:(len c.Parts==0)=decide (c.Parts.length=0):=xo (n:=0)
 have l1:(len c.Parts==1)=decide (c.Parts.length=1):=xo (n:=1)
 have l2:(len c.Parts==2)=decide (c.Parts.length=2):=xo (n:=2)
 unfold Aa pO
 simp only[gU,rx _ hn,Option.bind_some,ES,xy,l0,l1,l2,xB,mU,AH]
 by_cases o1:c.Op=1
 ·simp only[o1,decide_true,cond_true,if_true]
 by_cases o2:c.Op=2
 ·rw[decide_eq_false o1,decide_eq_true o2,cond_false,cond_true,if_neg o1,if_pos o2]
  cases decide (c.Parts.length=0)<;>rfl
 by_cases o3:c.Op=3
 ·rw[decide_eq_false o1,decide_eq_false o2,decide_eq_true o3,cond_false,cond_false,cond_true,if_neg o1,if_neg o2,if_pos o3]
  cases decide (c.Parts.length=0)<;>cases decide (c.Name=[])<;>rfl
 by_cases o4:c.Op=4
 ·rw[decide_eq_false o1,decide_eq_false o2,decide_eq_false o3,decide_eq_true o4,if_neg o1,if_neg o2,if_neg o3,if_pos o4]
  rfl
 rw[decide_eq_false o1,decide_eq_false o2,decide_eq_false o3,decide_eq_false o4,if_neg o1,if_neg o2,if_neg o3,if_neg o4]
 by_cases o5:c.Op=5
 ·simp only[o5,decide_true,cond_true,cond_false,true_or,if_true]
 ·by_cases o6:c.Op=6
  ·rw[if_pos (.inr o6),decide_eq_false o5,decide_eq_true o6];rfl
  ·rw[if_neg (by omega),decide_eq_false o5,decide_eq_false o6];rfl
theorem NE (c:Condition):b6 c→ET c=some (d5 c):=by
 refine et (P:=fun c=>b6 c→ET c=some (d5 c)) ?_ c
 intro c ih hc
 rw[fH] at hc
 rw[Ur]
 unfold sM
 rw[Q0 c hc.2.1,Option.bind_some,pe]
 cases pO c with
 | false=>rfl
 | true=>
  have hl:c.Parts.length≤1048576:=hc.2.2.2.1.1
  simp only[Bool.not_true,cond_false,Bool.true_and]
  rw[UX (L:=qc (aA qo) c) (a:=c.Parts) (f:=fun e=>ET e) (p:=d5) (fun x hx=>ih x hx (hc.2.2.2.1.2 x hx)) (fun x=>by rw[Mv,kK]<;>rfl) (by omega)]
  cases c.Parts.all d5<;>rfl
theorem mV (a:List Condition)(i:Nat)(h:i<a.length):aC (a.take (i+1))=aC (a.take i)+aI a[i]:=by
 have app:∀(x y:List Condition),aC (x++y)=aC x+aC y:=by
  intro x y
  induction x with
  | nil=>simp[aC]
  | cons z x ih=>simp only[List.cons_append,aC,ih];omega
 rw[List.take_add_one,List.getElem?_eq_getElem h,app]
 simp[aC]
theorem iU (a:List Condition)(i:Nat):aC (a.take i)≤aC a:=by
 have app:∀(x y:List Condition),aC (x++y)=aC x+aC y:=by
  intro x y
  induction x with
  | nil=>simp[aC]
  | cons z x ih=>simp only[List.cons_append,aC,ih];omega
 have:=app (a.take i) (a.drop i)
 rw[List.take_append_drop] at this
 omega
theorem Xg {a:List Condition}{i:Nat}(h:i<a.length):aI a[i]≤aC a:=by
 have h1:=mV a i h
 have h2:=iU a (i+1)
 omega
theorem Q2 (c:Condition):aI c≤2000000→IC c=some ((aI c:Nat):Int):=by
 refine et (P:=fun c=>aI c≤2000000→IC c=some ((aI c:Nat):Int)) ?_ c
 intro c ih hc
 have hc':=eg c
 have hcs:=eY c.Parts
 rw[Us]
 unfold sV
 obtain⟨y,h1,h2⟩:=ka (L:=fun i (s:Int)=>lw (aA kP) c (s,(i:Int))) c.Parts.length (fun i s=>s=((1+aC (c.Parts.take i):Nat):Int)) (fun y=>y=.inr ((aI c:Nat):Int)) (s:=1)
  (by
   intro i s hi hj
   have hx:=List.getElem?_eq_getElem hi
   have h3:=mV c.Parts i hi
   have h4:=iU c.Parts (i+1)
   refine .inl ⟨((1+aC (c.Parts.take (i+1)):Nat):Int),rfl,?_⟩
   show lw (aA kP) c (s,(i:Int))=_
   rw[CT,jH]
   simp only[bp,decide_eq_true hi,cond_true,bE,hx,Option.bind_some]
   rw[show aA kP c.Parts[i]=some ((aI c.Parts[i]:Nat):Int) from ih _ (List.getElem_mem hi) (by omega),Option.bind_some,b9 (by omega),hj,eC (by omega) (by omega)]
   congr 2
   omega)
  (by
   intro s hj
   refine⟨_,rfl,?_⟩
   rw[List.take_length] at hj
   show lw (aA kP) c (s,(c.Parts.length:Int))=_
   rw[CT,jH]
   simp only[bp,decide_eq_false (Nat.lt_irrefl _),cond_false]
   rw[hj,hc']) (by simp[aC])
 rw[show lw (aA kP) c (1,0)=some y from h2,h1]
 rfl
def oK (c:Condition):Bool:=d5 c&&decide (aI c≤15)
theorem Yg {c:Condition}(h:b6 c):aI c≤1048577:=by
 rw[fH] at h
 rw[eg]
 omega
theorem QZ (c:Condition)(h:b6 c):Ae c=some (oK c):=by
 unfold Ae oK
 rw[NE c h,Option.bind_some]
 cases d5 c with
 | false=>rfl
 | true=>
  have:=Yg h
  simp only[cond_true,Bool.true_and]
  rw[Q2 c (by omega),Option.bind_some,fx]
  congr 1
  by_cases h:aI c≤15
  ·rw[decide_eq_true h,decide_eq_true (by omega)]
  ·rw[decide_eq_false h,decide_eq_false (by omega)]
def Kh (op:Int):Nat:=if op=4 then 1 else if op=5∨op=6 then 2 else 0
def AW (c:Condition):Bool:=gn c.Op 1 6&&decide (c.Parts.length=Kh c.Op)
def Es (c:Condition):Bool:=((c.Op==2) == !(c.Name==([]:ac)))&&((if c.Op=2 then iG c.Name else true)&&((if c.Op=3 then true else decide (c.Day=0))&&gn c.Day 0 36524))
theorem qi {x a b:Int}:gn x a b=true↔a≤x∧x≤b:=by simp[gn]
theorem Qu (c:Condition):((nU c.Op 1 6).bind fun r20=>ca (ρ:=Int) (bif (!r20) then (some (.inr true)) else ((aM [(-1),0,0,0,1,2,2] c.Op).bind fun e22=>some (.inr ((len c.Parts) != e22)))) fun u21:Bool=>(some (.inr u21):Option (Int⊕Bool)))=some (.inr (!AW c)):=by
 rw[tq,Option.bind_some]
 unfold AW
 cases h:gn c.Op 1 6 with
 | false=>rfl
 | true=>
  rw[qi] at h
  have ho:c.Op=1∨c.Op=2∨c.Op=3∨c.Op=4∨c.Op=5∨c.Op=6:=by omega
  have key:aM [(-1),0,0,0,1,2,2] c.Op=some ((Kh c.Op:Nat):Int):=by rcases ho with h | h | h | h | h | h<;>rw[h]<;>rfl
  simp only[Bool.not_true,cond_false,key,Option.bind_some,iO,Bool.true_and,bne,xo]
theorem Qv (c:Condition)(hn:c.Name.length≤1048576):(bif (!((c.Op==2)==(!(c.Name==([]:ac))))) then (some (.inr true)) else (ca (ρ:=Int) (bif (c.Op==2) then ((vS c.Name).bind fun r10=>ca (ρ:=Int) (bif (!r10) then (some (.inr true)) else (ca (ρ:=Int) (bif (c.Op != 3) then (ca (ρ:=Int) (bif (c.Day != 0) then (some (.inr true)) else ((te c.Day).bind fun r14=>some (.inr (!r14)))) fun u13:Bool=>some (.inr u13)) else ((te c.Day).bind fun r15=>some (.inr (!r15)))) fun u12:Bool=>some (.inr u12))) fun u11:Bool=>some (.inr u11)) else (ca (ρ:=Int) (bif (c.Op != 3) then (ca (ρ:=Int) (bif (c.Day != 0) then (some (.inr true)) else ((te c.Day).bind fun r18=>some (.inr (!r18)))) fun u17:Bool=>some (.inr u17)) else ((te c.Day).bind fun r19=>some (.inr (!r19)))) fun u16:Bool=>some (.inr u16))) fun u9:Bool=>(some (.inr u9):Option (Int⊕Bool))))=some (.inr (!Es c)):=by
 unfold Es
 simp only[rm _ hn,te,tq,Option.bind_some,Vo]
 cases ((c.Op==2) == !(c.Name==([]:ac))) with
 | false=>rfl
 | true=>
  simp only[Bool.not_true,cond_false,Bool.true_and]
  by_cases o2:c.Op=2
  ·simp only[o2,if_true,show ((2:Int)==2)=true from rfl,cond_true,show ¬(2:Int)=3 by omega,if_false,decide_false,Bool.not_false]
   cases iG c.Name<;>by_cases hd:c.Day=0<;>simp[hd]
  ·have:(c.Op==2)=false:=beq_eq_false_iff_ne.2 o2
   rw[this,cond_false,if_neg o2]
   by_cases o3:c.Op=3
   ·simp[o3]
   ·by_cases hd:c.Day=0<;>simp[o3,hd]
theorem uh (c:Condition):pO c=(AW c&&Es c):=by
 have name0:c.Name=[]→iG c.Name=false:=fun h=>by rw[h];rfl
 have d0:c.Day=0→gn c.Day 0 36524=true:=fun h=>by rw[h];rfl
 have in1:gn c.Op 1 6=decide (1≤c.Op∧c.Op≤6):=by rw[Bool.eq_iff_iff,qi,decide_eq_true_iff]
 unfold pO AW Es
 rw[in1,show Kh c.Op=if c.Op=4 then 1 else if c.Op=5∨c.Op=6 then 2 else 0 from rfl]
 by_cases hn:c.Name=[]
 ·by_cases hd:c.Day=0
  ·by_cases o1:c.Op=1
   ·simp[o1,hn,hd,gn]
   by_cases o2:c.Op=2
   ·simp[o2,hn,hd,iG]
   by_cases o3:c.Op=3
   ·simp[o3,hn,hd,gn]
   by_cases o4:c.Op=4
   ·simp[o4,hn,hd,gn]
   by_cases o5:c.Op=5
   ·simp[o5,hn,hd,gn]
   by_cases o6:c.Op=6
   ·simp[o6,hn,hd,gn]
   have:¬(1≤c.Op∧c.Op≤6):=by omega
   simp[o1,o2,o3,o4,o5,o6,decide_eq_false this]
  ·by_cases o3:c.Op=3
   ·simp[o3,hn]
   ·by_cases o2:c.Op=2<;>simp[o2,o3,hd]
 ·have hb:(c.Name==([]:ac))=false:=beq_eq_false_iff_ne.2 hn
  by_cases o2:c.Op=2
  ·by_cases hd:c.Day=0<;>simp[o2,hn,hd,gn,hb]
  ·simp[o2,hn,hb]
theorem No (c:Condition):b6 c→∀so:Nat,so≤15→PV c (so:Int)=some (if d5 c=true∧so+aI c≤15 then ((so+aI c:Nat):Int) else -1):=by
 refine et (P:=fun c=>b6 c→∀so:Nat,so≤15→PV c (so:Int)=some (if d5 c=true∧so+aI c≤15 then ((so+aI c:Nat):Int) else -1)) ?_ c
 intro c ih hc so hso
 rw[fH] at hc
 have hnc:=eg c
 rw[WQ]
 unfold xb
 rw[Qu,Qv c hc.2.1,b9 (by omega),pe,uh]
 by_cases h15:so+1≤15
 ·rw[decide_eq_false (by omega),cond_false]
  cases AW c with
  | false=>rfl
  | true=>
  cases Es c with
  | false=>rfl
  | true=>
   simp only[Bool.not_true,fx,cond_false,Bool.true_and]
   obtain⟨y,h1,h2⟩:=ka (L:=fun i (s:Int)=>lR (aA lZ) c (so:Int) (s,(i:Int))) c.Parts.length
    (fun i s=>s=((so+1+aC (c.Parts.take i):Nat):Int)∧so+1+aC (c.Parts.take i)≤15∧(c.Parts.take i).all d5=true)
    (fun y=>y=if c.Parts.all d5=true∧so+aI c≤15 then .inr ((so+aI c:Nat):Int) else .inl (-1)) (s:=((so+1:Nat):Int))
    (by
     rintro i s hi ⟨hj,hj2,hj3⟩
     have hx:=List.getElem?_eq_getElem hi
     have h3:=mV c.Parts i hi
     have h4:=iU c.Parts (i+1)
     have h5:=ih _ (List.getElem_mem hi) (hc.2.2.2.1.2 _ (List.getElem_mem hi)) (so+1+aC (c.Parts.take i)) hj2
     show (∃s',_∧lR (aA lZ) c (so:Int) (s,(i:Int))=_)∨∃y,_∧lR (aA lZ) c (so:Int) (s,(i:Int))=_
     rw[FX,kW]
     simp only[bp,decide_eq_true hi,cond_true,bE,hx,Option.bind_some,hj]
     rw[show aA lZ (c.Parts[i],((so+1+aC (c.Parts.take i):Nat):Int))=_ from h5,Option.bind_some,b9 (by have:=hc.2.2.2.1.1;omega)]
     by_cases hq:d5 c.Parts[i]=true∧so+1+aC (c.Parts.take i)+aI c.Parts[i]≤15
     ·rw[if_pos hq,decide_eq_false (by omega),cond_false]
      refine .inl ⟨_,⟨?_,?_,?_⟩,rfl⟩
      ·congr 1;omega
      ·omega
      ·rw[List.take_add_one,hx,List.all_append,hj3];simp[hq.1]
     ·rw[if_neg hq,decide_eq_true (by omega),cond_true]
      refine .inr ⟨_,?_,rfl⟩
      rw[if_neg]
      rintro⟨h6,h7⟩
      rw[List.all_eq_true] at h6
      exact hq ⟨h6 _ (List.getElem_mem hi),by omega⟩)
    (by
     rintro s ⟨hj,hj2,hj3⟩
     rw[List.take_length] at *
     show ∃y,_∧lR (aA lZ) c (so:Int) (s,(c.Parts.length:Int))=_
     rw[FX,kW]
     simp only[bp,decide_eq_false (Nat.lt_irrefl _),cond_false]
     refine⟨_,?_,rfl⟩
     rw[if_pos ⟨hj3,by omega⟩,hj]
     congr 2;omega) ⟨by simp[aC],by simp[aC];omega,by simp⟩
   rw[show lR (aA lZ) c (so:Int) (((so+1:Nat):Int),0)=some y from h2,h1]
   by_cases hq:c.Parts.all d5=true∧so+aI c≤15
   ·rw[if_pos hq,if_pos hq];rfl
   ·rw[if_neg hq,if_neg hq];rfl
 ·rw[decide_eq_true (by omega),cond_true,fx,cond_true,if_neg (by omega)]
theorem Qt (c:Condition)(h:b6 c):HV c=some (oK c):=by
 unfold HV oK
 rw[show (0:Int)=((0:Nat):Int) from rfl,No c h 0 (by omega),Option.bind_some]
 have:=eg c
 congr 1
 cases d5 c with
 | false=>rfl
 | true=>
  by_cases h:aI c≤15
  ·rw[if_pos ⟨rfl,by omega⟩,decide_eq_true (by omega),decide_eq_true h];rfl
  ·rw[if_neg (by omega),decide_eq_false h];rfl
mutual
def iz:Condition→List ac
 | ⟨op,name,_,parts⟩=>(if op=2 then [name] else [])++eN parts
def eN:List Condition→List ac
 | []=>[]
 | x::xs=>iz x++eN xs
end
theorem Gm (c:Condition):iz c=(if c.Op=2 then [c.Name] else [])++eN c.Parts:=by cases c;simp only[iz]
theorem yQ:∀(a b:List Condition),eN (a++b)=eN a++eN b
 | [],b=>rfl
 | x::a,b=>by simp only[List.cons_append,eN,yQ a b,List.append_assoc]
theorem wx (a:List Condition)(i:Nat)(h:i<a.length):eN (a.take (i+1))=eN (a.take i)++iz a[i]:=by
 rw[List.take_add_one,List.getElem?_eq_getElem h,yQ]
 simp[eN]
mutual
theorem nK:∀c,(iz c).length≤aI c
 | ⟨op,name,day,parts⟩=>by
  have:=rO parts
  simp only[iz,aI,List.length_append]
  split<;>simp<;>omega
theorem rO:∀a,(eN a).length≤aC a
 | []=>by simp[eN]
 | x::a=>by
  have h1:=nK x
  have h2:=rO a
  simp only[eN,aC,List.length_append]
  omega
end
theorem um (c:Condition):∀l:List ac,l.length+aI c≤1000000→IQ c l=some (l++iz c):=by
 refine et (P:=fun c=>∀l:List ac,l.length+aI c≤1000000→IQ c l=some (l++iz c)) ?_ c
 intro c ih l hl
 have hnc:=eg c
 have hpl:=eY c.Parts
 rw[WP]
 unfold wZ
 have h0:(bif (c.Op==2) then ((fA 16 l [c.Name]).bind fun a8=>some (.inr a8)) else (some (.inr l)):Option (List ac⊕List ac))=some (.inr (l++if c.Op=2 then [c.Name] else [])):=by
  rw[mU]
  by_cases h:c.Op=2
  ·rw[decide_eq_true h,cond_true,jM (by omega) (by omega),if_pos h];rfl
  ·rw[decide_eq_false h,cond_false,if_neg h,List.append_nil]
 rw[h0,fx]
 have hlen:(l++if c.Op=2 then [c.Name] else []).length≤l.length+1:=by
  rw[List.length_append];split<;>simp
 rw[Gm,←List.append_assoc]
 generalize (l++if c.Op=2 then [c.Name] else [])=l1 at hlen ⊢
 obtain⟨y,h1,h2⟩:=ka (L:=fun i (s:List ac)=>nk (aA nj) c l ((i:Int),s)) c.Parts.length (fun i s=>s=l1++eN (c.Parts.take i)) (fun y=>y=.inr (l1++eN c.Parts)) (s:=l1)
  (by
   intro i s hi hj
   have hx:=List.getElem?_eq_getElem hi
   have h3:=mV c.Parts i hi
   have h4:=iU c.Parts (i+1)
   have h5:=rO (c.Parts.take i)
   refine .inl ⟨l1++eN (c.Parts.take (i+1)),rfl,?_⟩
   show nk (aA nj) c l ((i:Int),s)=_
   rw[FU,kV]
   simp only[bp,decide_eq_true hi,cond_true,bE,hx,Option.bind_some]
   rw[show aA nj (c.Parts[i],s)=_ from ih _ (List.getElem_mem hi) s (by rw[hj,List.length_append];omega),Option.bind_some,b9 (by omega),hj,wx _ _ hi,List.append_assoc])
  (by
   intro s hj
   refine⟨_,rfl,?_⟩
   rw[List.take_length] at hj
   show nk (aA nj) c l ((c.Parts.length:Int),s)=_
   rw[FU,kV]
   simp only[bp,decide_eq_false (Nat.lt_irrefl _),cond_false]
   rw[hj]) (by simp[eN])
 rw[show nk (aA nj) c l (0,l1)=some y from h2,h1]
 rfl
theorem D8 {c:Condition}(h:pO c=true)(ho:c.Op=2∨c.Op=3):c.Parts=[]:=by
 rw[uh,AW,Kh] at h
 rw[Bool.and_eq_true,Bool.and_eq_true,decide_eq_true_iff] at h
 have:=h.1.2
 rw[if_neg (by omega),if_neg (by omega)] at this
 exact List.length_eq_zero_iff.1 this
theorem uI (c:Condition):d5 c=true→∀l:List ac,l.length+aI c≤1000000→l.Pairwise StrL.Lt→∃r,qs l c=some r∧r.Pairwise StrL.Lt∧(∀x,x∈r↔x∈l∨x∈iz c)∧r.length≤l.length+aI c:=by
 refine et (P:=fun c=>d5 c=true→∀l:List ac,l.length+aI c≤1000000→l.Pairwise StrL.Lt→∃r,qs l c=some r∧r.Pairwise StrL.Lt∧(∀x,x∈r↔x∈l∨x∈iz c)∧r.length≤l.length+aI c) ?_ c
 intro c ih hf l hl hs
 have hnc:=eg c
 have hpl:=eY c.Parts
 rw[pe,Bool.and_eq_true,List.all_eq_true] at hf
 rw[LF]
 unfold sQ
 rw[mU,Gm]
 by_cases ho:c.Op=2
 ·obtain⟨r,e,r1,r2,r3⟩:=StrL.put_val l c.Name (by omega) hs
  rw[decide_eq_true ho,cond_true,e,if_pos ho,D8 hf.1 (.inl ho)]
  exact⟨r,rfl,r1,fun x=>by rw[r2];simp[eN],by omega⟩
 rw[decide_eq_false ho,cond_false,if_neg ho,List.nil_append]
 obtain⟨y,h1,h2⟩:=ka (L:=fun i (s:List ac)=>ji (aA ir) l c ((i:Int),s)) c.Parts.length
  (fun i s=>s.Pairwise StrL.Lt∧(∀x,x∈s↔x∈l∨x∈eN (c.Parts.take i))∧s.length≤l.length+aC (c.Parts.take i))
  (fun y=>∃r,y=.inr r∧r.Pairwise StrL.Lt∧(∀x,x∈r↔x∈l∨x∈eN c.Parts)∧r.length≤l.length+aI c) (s:=l)
  (by
   rintro i s hi ⟨j1,j2,j3⟩
   have hx:=List.getElem?_eq_getElem hi
   have h3:=mV c.Parts i hi
   have h4:=iU c.Parts (i+1)
   obtain⟨r,e,r1,r2,r3⟩:=ih _ (List.getElem_mem hi) (hf.2 _ (List.getElem_mem hi)) s (by omega) j1
   refine .inl ⟨r,⟨r1,fun x=>?_,by omega⟩,?_⟩
   ·rw[r2,j2,wx _ _ hi,List.mem_append,or_assoc]
   show ji (aA ir) l c ((i:Int),s)=_
   rw[pJ,iK]
   simp only[bp,decide_eq_true hi,cond_true,bE,hx,Option.bind_some]
   rw[show aA ir (s,c.Parts[i])=_ from e,Option.bind_some,b9 (by omega)])
  (by
   rintro s ⟨j1,j2,j3⟩
   rw[List.take_length] at *
   refine⟨.inr s,⟨s,rfl,j1,j2,by omega⟩,?_⟩
   show ji (aA ir) l c ((c.Parts.length:Int),s)=_
   rw[pJ,iK]
   simp only[bp,decide_eq_false (Nat.lt_irrefl _),cond_false]) ⟨hs,fun x=>by simp[eN],by simp[aC]⟩
 obtain⟨r,rfl,hr⟩:=h1
 rw[show ji (aA ir) l c (0,l)=some (.inr r) from h2]
 exact⟨r,rfl,hr⟩
theorem Jk (l:List ac)(s:ac)(hl:l.length≤1048576):oe l s=some (l.contains s):=by
 unfold oe vo
 rw[tn (L:=oh l s) (a:=l) (p:=fun e=>some (s==e)) (q:=fun e=>s==e) (fun _ _=>rfl) (fun x=>by rw[tJ,jG]<;>rfl) (by omega)]
 cases h:l.findIdx? (fun e=>s==e) with
 | none=>
  have:l.contains s=false:=by
   rw[List.findIdx?_eq_none_iff] at h
   rw[Bool.eq_false_iff]
   intro hc
   rw[List.contains_iff_exists_mem_beq] at hc
   obtain⟨w,hw,he⟩:=hc
   rw[h w hw] at he
   cases he
  rw[this]
  rfl
 | some i=>
  have:l.contains s=true:=by
   rw[List.findIdx?_eq_some_iff_getElem] at h
   obtain⟨hi,he,_⟩:=h
   rw[List.contains_iff_exists_mem_beq]
   exact⟨_,List.getElem_mem hi,he⟩
  rw[this]
  simp
theorem SM (a b:ac):(a==b)=(b==a):=by
 rw[xB,xB]
 by_cases h:a=b
 ·simp[h]
 ·simp[h,Ne.symm h]
theorem Vm (l:List ac)(s:ac)(hl:l.length≤1048576):rD l s=some (l.contains s):=by
 unfold rD
 rw[xg (L:=qd l s) (a:=l) (p:=fun e=>some (e==s)) (q:=fun e=>e==s) (r:=true) (fun _ _=>rfl) (fun x=>by rw[CD,kL]<;>rfl) (by omega)]
 have:(l.any fun e=>e==s)=l.contains s:=by
  rw[List.contains_eq_any_beq]
  congr 1
  funext e
  exact SM e s
 rw[this]
 cases l.contains s<;>rfl
def SL (l:List ac)(k:Nat):Bool:=match l[k]? with
 | some e=>!iG e||(l.take k).contains e
 | none=>false
def wC (l:List ac):Nat→Nat→Bool
 | 0,_=>true
 | n+1,k=>!SL l k&&wC l n (k+1)
theorem Kf {α:Type}{l:List α}{k:Nat}(h:k≤l.length):qS l 0 (k:Int)=some (l.take k):=by
 unfold qS
 rw[if_pos (by omega)]
 simp
theorem za (l:List ac)(cs:List Clause)(hl:oc qR l):∀(n k:Nat),k+n=l.length→ta ⟨l,cs⟩ (k:Int)=some (bif wC l n k then .inr () else .inl false)
 | 0,k,hk=>by
  have h1:=hl.1
  rw[Df,kT]
  simp only[bp]
  rw[decide_eq_false (by omega)]
  rfl
 | n+1,k,hk=>by
  have h1:=hl.1
  obtain⟨e,he⟩:∃e,l[k]?=some e:=⟨_,List.getElem?_eq_getElem (by omega)⟩
  rw[Df,kT]
  simp only[bp]
  rw[decide_eq_true (by omega)]
  simp only[cond_true,bE,he,Option.bind_some,rx e (hl.2 e (List.mem_of_getElem? he)),Kf (show k≤l.length by omega),Vm _ e (show (l.take k).length≤1048576 by rw[List.length_take];omega)]
  rw[b9 (by omega),za l cs hl n (k+1) (by omega)]
  simp only[wC,SL,he]
  cases iG e<;>cases (l.take k).contains e<;>rfl
theorem yP (l:List ac)(hl:oc qR l):∀(n k:Nat),k+n=l.length→vX l (k:Int)=some (bif wC l n k then .inr () else .inl false)
 | 0,k,hk=>by
  have h1:=hl.1
  rw[FV,md]
  simp only[bp]
  rw[decide_eq_false (by omega)]
  rfl
 | n+1,k,hk=>by
  have h1:=hl.1
  obtain⟨e,he⟩:∃e,l[k]?=some e:=⟨_,List.getElem?_eq_getElem (by omega)⟩
  rw[FV,md]
  simp only[bp]
  rw[decide_eq_true (by omega)]
  simp only[cond_true,bE,he,Option.bind_some,rm e (hl.2 e (List.mem_of_getElem? he)),Kf (show k≤l.length by omega),Jk _ e (show (l.take k).length≤1048576 by rw[List.length_take];omega)]
  rw[b9 (by omega),yP l hl n (k+1) (by omega)]
  simp only[wC,SL,he]
  cases iG e<;>cases (l.take k).contains e<;>rfl
def pU (l:List ac):Bool:=wC l l.length 0&&gn (len l) 2 4
theorem Ts (l:List ac)(cs:List Clause)(hl:oc qR l):vU ⟨l,cs⟩=some (pU l):=by
 unfold vU pU
 have:=za l cs hl l.length 0 (by omega)
 rw[show (0:Int)=((0:Nat):Int) by rfl,this]
 simp only[xy]
 cases wC l l.length 0<;>rfl
theorem S4 (l:List ac)(hl:oc qR l):IT l=some (pU l):=by
 unfold IT pU
 have:=yP l hl l.length 0 (by omega)
 rw[show (0:Int)=((0:Nat):Int) by rfl,this]
 simp only[tq]
 cases wC l l.length 0<;>rfl
def jN (cs:List Clause)(id:ac):Int:=match cs.findIdx? (fun e=>e.Id==id) with
 | some i=>(i:Int)
 | none=>-1
theorem GF (c:Contract)(id:ac)(hl:c.Clauses.length≤1048576):tQ c id=some (jN c.Clauses id):=by
 unfold tQ jN
 rw[tn (L:=sX c id) (a:=c.Clauses) (p:=fun e=>some (e.Id==id)) (q:=fun e=>e.Id==id) (fun _ _=>rfl) (fun x=>by rw[Mx,mN]<;>rfl) (by omega)]
 cases c.Clauses.findIdx? (fun e=>e.Id==id)<;>rfl
theorem Gh (c:Contract)(id:ac)(hl:c.Clauses.length≤1048576):DA c id=some (jN c.Clauses id):=by
 unfold DA EP jN
 rw[tn (L:=sG c.Clauses id) (a:=c.Clauses) (p:=fun e=>some (e.Id==id)) (q:=fun e=>e.Id==id) (fun _ _=>rfl) (fun x=>by rw[Mu,mG]<;>rfl) (by omega)]
 cases c.Clauses.findIdx? (fun e=>e.Id==id)<;>rfl
theorem LT (cs:List Clause)(id:ac):jN cs id=-1∨∃j:Nat,jN cs id=(j:Int)∧j<cs.length:=by
 unfold jN
 cases h:cs.findIdx? (fun e=>e.Id==id) with
 | none=>exact .inl rfl
 | some j=>
  rw[List.findIdx?_eq_some_iff_getElem] at h
  exact .inr ⟨j,rfl,h.1⟩
def J6 (cs:List Clause)(i:Int)(e:Clause):Bool:=match jN cs e.Repair with
 | .ofNat k=>match cs[k]? with
  | some e'=>((k:Int) != i)&&((e'.Kind==1)&&(e.Kind != 3))
  | none=>false
 | .negSucc _=>false
def kg (c:Contract)(i:Int)(e:Clause):Bool:=
 iG e.Id&&(iG e.Action&&(gn e.Kind 1 4&&(gn e.Party 0 (aj (len c.Parties - 1))&&(gn e.Other 0 (aj (len c.Parties - 1))&&(!(e.Party==e.Other)&&(oK e.When&&(gn e.Amount 0 1000000&&(gn e.Within 0 400&&(!(bif e.Kind != 1 then (bif e.Amount != 0 then true else e.Within != 0) else false) &&
  (bif e.Repair==[] then true else J6 c.Clauses i e))))))))))
theorem Tt (c:Contract)(i:Int)(e:Clause)(hl:c.Clauses.length≤1048576):((tQ c e.Repair).bind fun r8=>bn (ρ:=Bool) (bif (decide (r8≥0)) then (ca (ρ:=Bool) (bif (r8 != i) then ((aM c.Clauses r8).bind fun e11=>dA (bif (e11.Kind==1) then ((e.Kind != 3)) else (false)) fun u12:Bool=>some (.inr u12)) else (some (.inr false))) fun u10:Bool=>some (.inr u10)) else (some (.inr false))) fun u9:Bool=>some u9)=some (J6 c.Clauses i e):=by
 rw[GF c _ hl,Option.bind_some]
 unfold J6
 rcases LT c.Clauses e.Repair with h | ⟨j,h,hj⟩
 ·rw[h];rfl
 ·rw[h,decide_eq_true (by omega),cond_true,bE,List.getElem?_eq_getElem hj,Option.bind_some]
  show _=some (match c.Clauses[j]? with | some e'=>_ | none=>false)
  rw[List.getElem?_eq_getElem hj]
  show _=some (((j:Int) != i)&&((c.Clauses[j].Kind==1)&&(e.Kind != 3)))
  cases ((j:Int) != i)<;>cases (c.Clauses[j].Kind==1)<;>rfl
theorem S5 (c:Contract)(i:Int)(e:Clause)(hl:c.Clauses.length≤1048576):((DA c e.Repair).bind fun r10=>bn (ρ:=Bool) (bif (e.Kind != 3) then (ca (ρ:=Bool) (bif (decide (r10≥0)) then (ca (ρ:=Bool) (bif (r10 != i) then ((aM c.Clauses r10).bind fun e14=>some (.inr (e14.Kind==1))) else (some (.inr false))) fun u13:Bool=>some (.inr u13)) else (some (.inr false))) fun u12:Bool=>some (.inr u12)) else (some (.inr false))) fun u11:Bool=>some u11)=some (J6 c.Clauses i e):=by
 rw[Gh c _ hl,Option.bind_some]
 unfold J6
 rcases LT c.Clauses e.Repair with h | ⟨j,h,hj⟩
 ·rw[h];cases (e.Kind != 3)<;>rfl
 ·rw[h,decide_eq_true (by omega),cond_true,bE,List.getElem?_eq_getElem hj,Option.bind_some]
  show _=some (match c.Clauses[j]? with | some e'=>_ | none=>false)
  rw[List.getElem?_eq_getElem hj]
  show _=some (((j:Int) != i)&&((c.Clauses[j].Kind==1)&&(e.Kind != 3)))
  cases ((j:Int) != i)<;>cases (c.Clauses[j].Kind==1)<;>cases (e.Kind != 3)<;>rfl
theorem Li (c:Contract)(i:Int)(e:Clause)(he:aM c.Clauses i=some e)(hs:gb e)(hl:c.Clauses.length≤1048576):Am c i=some (kg c i e):=by
 unfold Am kg
 rw[he,Option.bind_some,Tt c i e hl]
 simp only[rx _ hs.1,rx _ hs.2.2.2.1,xy,QZ _ hs.2.2.2.2.2.2.1,Option.bind_some,gU]
 cases iG e.Id with | false=>rfl | true=>?_
 cases iG e.Action with | false=>rfl | true=>?_
 cases gn e.Kind 1 4 with | false=>rfl | true=>?_
 cases gn e.Party 0 (aj (len c.Parties - 1)) with | false=>rfl | true=>?_
 cases gn e.Other 0 (aj (len c.Parties - 1)) with | false=>rfl | true=>?_
 cases (e.Party==e.Other) with | true=>rfl | false=>?_
 cases oK e.When with | false=>rfl | true=>?_
 cases gn e.Amount 0 1000000 with | false=>rfl | true=>?_
 cases gn e.Within 0 400 with | false=>rfl | true=>?_
 cases (bif e.Kind != 1 then (bif e.Amount != 0 then true else e.Within != 0) else false) with | true=>rfl | false=>?_
 cases (e.Repair==([]:ac))<;>rfl
theorem K8 (c:Contract)(i:Int)(e:Clause)(he:aM c.Clauses i=some e)(hs:gb e)(hl:c.Clauses.length≤1048576):IW c i=some ((jN c.Clauses e.Id==i)&&kg c i e):=by
 unfold IW kg
 rw[he,Option.bind_some,S5 c i e hl]
 simp only[rm _ hs.1,rm _ hs.2.2.2.1,tq,Qt _ hs.2.2.2.2.2.2.1,Option.bind_some,gU,Gh c _ hl,bne]
 cases iG e.Id with | false=>cases (jN c.Clauses e.Id==i)<;>rfl | true=>?_
 cases (jN c.Clauses e.Id==i) with | false=>rfl | true=>?_
 cases iG e.Action with | false=>rfl | true=>?_
 cases gn e.Kind 1 4 with | false=>rfl | true=>?_
 cases gn e.Party 0 (aj (len c.Parties - 1)) with | false=>rfl | true=>?_
 cases gn e.Other 0 (aj (len c.Parties - 1)) with | false=>rfl | true=>?_
 cases (e.Party==e.Other) with | true=>rfl | false=>?_
 cases oK e.When with | false=>rfl | true=>?_
 cases gn e.Amount 0 1000000 with | false=>rfl | true=>?_
 cases gn e.Within 0 400 with | false=>rfl | true=>?_
 cases (bif !(e.Kind==1) then (bif !(e.Amount==0) then true else !(e.Within==0)) else false) with | true=>rfl | false=>?_
 cases (e.Repair==([]:ac))<;>rfl
def rT (c:Contract)(i:Nat):Bool:=match c.Clauses[i]? with
 | some e=>(jN c.Clauses e.Id==(i:Int))&&kg c (i:Int) e
 | none=>true
def iZ (c:Contract):Bool:=!((List.range c.Clauses.length).any fun i=>!rT c i)
theorem wl {c:Contract}:iZ c=true↔∀(i:Nat) e,c.Clauses[i]?=some e→jN c.Clauses e.Id=(i:Int)∧kg c (i:Int) e=true:=by
 unfold iZ
 rw[Bool.not_eq_true',←Bool.not_eq_true,List.any_eq_true]
 constructor
 ·intro h i e he
  have hi:=(List.getElem?_eq_some_iff.1 he).1
  cases h1:rT c i with
  | false=>exact absurd ⟨i,List.mem_range.2 hi,by rw[h1];rfl⟩ h
  | true=>
   simp only[rT,he,Bool.and_eq_true,beq_iff_eq] at h1
   exact h1
 ·rintro h ⟨i,hi,h2⟩
  rw[List.mem_range] at hi
  have h1:=h i _ (List.getElem?_eq_getElem hi)
  simp only[rT,List.getElem?_eq_getElem hi,h1.1,h1.2,beq_self_eq_true,Bool.and_self,Bool.not_true] at h2
  cases h2
theorem Kd (c:Contract)(hc:fS c):lx c 0=some (bif iZ c then .inr () else .inl false):=by
 have hl:c.Clauses.length≤1048576:=hc.2.1
 have h:=ml (a:=List.range c.Clauses.length) (q:=fun i=>!rT c i) (y0:=(Sum.inl false:Bool⊕Unit)) (y1:=.inr ()) (L:=fun i=>lx c (i:Int))
  (fun i x hx=>by
   obtain⟨hi,hx'⟩:=List.getElem?_eq_some_iff.1 hx
   rw[List.getElem_range] at hx'
   subst hx'
   rw[List.length_range] at hi
   have he:=List.getElem?_eq_getElem hi
   have hg:aM c.Clauses (i:Int)=some c.Clauses[i]:=by rw[bE,he]
   show lx c (i:Int)=_
   rw[C5,kR,bp,decide_eq_true hi,cond_true,hg,Option.bind_some,GF c _ hl,Option.bind_some,Li c _ _ hg (hc.2.2 _ (List.getElem_mem hi)) hl,b9 (by omega)]
   simp only[rT,he,bne]
   cases (jN c.Clauses c.Clauses[i].Id==(i:Int))<;>cases kg c (i:Int) c.Clauses[i]<;>rfl)
  (by
   rw[List.length_range]
   show lx c (c.Clauses.length:Int)=_
   rw[C5,kR,bp,decide_eq_false (Nat.lt_irrefl _),cond_false])
 rw[show lx c 0=_ from h]
 unfold iZ
 cases (List.range c.Clauses.length).any fun i=>!rT c i<;>rfl
theorem JF (c:Contract)(hc:fS c):ne c 0=some (bif iZ c then .inr () else .inl false):=by
 have hl:c.Clauses.length≤1048576:=hc.2.1
 have h:=ml (a:=List.range c.Clauses.length) (q:=fun i=>!rT c i) (y0:=(Sum.inl false:Bool⊕Unit)) (y1:=.inr ()) (L:=fun i=>ne c (i:Int))
  (fun i x hx=>by
   obtain⟨hi,hx'⟩:=List.getElem?_eq_some_iff.1 hx
   rw[List.getElem_range] at hx'
   subst hx'
   rw[List.length_range] at hi
   have he:=List.getElem?_eq_getElem hi
   have hg:aM c.Clauses (i:Int)=some c.Clauses[i]:=by rw[bE,he]
   show ne c (i:Int)=_
   rw[FN,mb,bp,decide_eq_true hi,cond_true,K8 c _ _ hg (hc.2.2 _ (List.getElem_mem hi)) hl,Option.bind_some,b9 (by omega)]
   simp only[rT,he])
  (by
   rw[List.length_range]
   show ne c (c.Clauses.length:Int)=_
   rw[FN,mb,bp,decide_eq_false (Nat.lt_irrefl _),cond_false])
 rw[show ne c 0=_ from h]
 unfold iZ
 cases (List.range c.Clauses.length).any fun i=>!rT c i<;>rfl
def jv (cs:List Clause):List ac:=cs.flatMap fun e=>e.Action::iz e.When
theorem wj {c:Contract}{i:Int}{e:Clause}(h:kg c i e=true):oK e.When=true:=by
 simp only[kg,Bool.and_eq_true] at h
 exact h.2.2.2.2.2.2.1
theorem rQ (cs:List Clause)(i:Nat)(h:i<cs.length):jv (cs.take (i+1))=jv (cs.take i)++(cs[i].Action::iz cs[i].When):=by
 unfold jv
 rw[List.take_add_one,List.getElem?_eq_getElem h,List.flatMap_append]
 simp
theorem JP (c:Contract)(hc:fS c)(h12:c.Clauses.length≤12)(hv:iZ c=true):∃r,tS c=some r∧IV c=some r∧r.Pairwise StrL.Lt∧(∀x,x∈r↔x∈jv c.Clauses)∧r.length≤1000:=by
 have hcond:∀i (hi:i<c.Clauses.length),d5 c.Clauses[i].When=true∧aI c.Clauses[i].When≤15:=fun i hi=>by
  have h1:=wj (wl.1 hv i _ (List.getElem?_eq_getElem hi)).2
  unfold oK at h1
  rw[Bool.and_eq_true,decide_eq_true_iff] at h1
  exact h1
 have hs:∃r,tS c=some r∧r.Pairwise StrL.Lt∧(∀x,x∈r↔x∈jv c.Clauses)∧r.length≤16*c.Clauses.length:=by
  obtain⟨y,⟨r,rfl,hr⟩,h2⟩:=ka (L:=fun i (s:List ac)=>mO c ((i:Int),s)) c.Clauses.length
   (fun i s=>s.Pairwise StrL.Lt∧(∀x,x∈s↔x∈jv (c.Clauses.take i))∧s.length≤16*i)
   (fun y=>∃r,y=.inr r∧r.Pairwise StrL.Lt∧(∀x,x∈r↔x∈jv c.Clauses)∧r.length≤16*c.Clauses.length) (s:=[])
   (by
    rintro i s hi ⟨j1,j2,j3⟩
    have he:=List.getElem?_eq_getElem hi
    obtain⟨f1,f2⟩:=hcond i hi
    obtain⟨r1,e1,p1,m1,l1⟩:=StrL.put_val s c.Clauses[i].Action (by omega) j1
    obtain⟨r2,e2,p2,m2,l2⟩:=uI _ f1 r1 (by omega) p1
    refine .inl ⟨r2,⟨p2,fun x=>?_,by omega⟩,?_⟩
    ·rw[m2,m1,j2,rQ _ _ hi,List.mem_append,List.mem_cons,or_assoc]
    ·show mO c ((i:Int),s)=_
     rw[Db,kS]
     simp only[bp,decide_eq_true hi,cond_true,bE,he,Option.bind_some,e1,e2]
     rw[b9 (by omega)])
   (by
    rintro s ⟨j1,j2,j3⟩
    rw[List.take_length] at j2
    refine⟨.inr s,⟨s,rfl,j1,j2,j3⟩,?_⟩
    show mO c ((c.Clauses.length:Int),s)=_
    rw[Db,kS]
    simp only[bp,decide_eq_false (Nat.lt_irrefl _),cond_false]) ⟨List.Pairwise.nil,fun x=>by simp[jv],by simp⟩
  refine⟨r,?_,hr⟩
  unfold tS
  rw[show mO c (0,[])=some (.inr r) from h2]
  rfl
 obtain⟨r,e,p,m,l⟩:=hs
 refine⟨r,e,?_,p,m,by omega⟩
 obtain⟨y,h1,h2⟩:=ka (L:=fun i (s:List ac)=>o8 c ((i:Int),s)) c.Clauses.length
  (fun i s=>s=jv (c.Clauses.take i)∧s.length≤16*i) (fun y=>y=.inr (jv c.Clauses)∧(jv c.Clauses).length≤16*c.Clauses.length) (s:=[])
  (by
   rintro i s hi ⟨j1,j2⟩
   have he:=List.getElem?_eq_getElem hi
   obtain⟨f1,f2⟩:=hcond i hi
   have hlen:=nK c.Clauses[i].When
   refine .inl ⟨jv (c.Clauses.take (i+1)),⟨rfl,?_⟩,?_⟩
   ·rw[rQ _ _ hi,←j1,List.length_append,List.length_cons];omega
   ·show o8 c ((i:Int),s)=_
    rw[FZ,mf]
    simp only[bp,decide_eq_true hi,cond_true,bE,he,Option.bind_some]
    rw[jM (by omega) (by omega),Option.bind_some,um _ _ (by rw[List.length_append,List.length_singleton];omega),Option.bind_some,b9 (by omega),rQ _ _ hi,←j1,List.append_assoc]
    try rfl)
  (by
   rintro s ⟨j1,j2⟩
   rw[List.take_length] at j1
   refine⟨_,⟨rfl,by rw[←j1];exact j2⟩,?_⟩
   show o8 c ((c.Clauses.length:Int),s)=_
   rw[FZ,mf]
   simp only[bp,decide_eq_false (Nat.lt_irrefl _),cond_false]
   rw[j1]) ⟨by simp[jv],by simp⟩
 unfold IV
 rw[show o8 c (0,[])=some y from h2,h1.1,fx,LL _ r (by omega) p m]
 rfl
noncomputable def jo (c:Contract):Bool:=(gn (len c.Clauses) 1 12&&pU c.Parties)&&(iZ c&&(match tS c with | some r=>decide (len r≤16) | none=>false))
theorem GQ (c:Contract)(hc:fS c):Ao c=some (jo c):=by
 unfold Ao jo
 have hp:=Ts c.Parties c.Clauses hc.1
 rw[xy,show vU c=_ from hp,Kd c hc,Option.bind_some]
 cases h1:gn (len c.Clauses) 1 12 with | false=>rfl | true=>?_
 cases pU c.Parties with | false=>rfl | true=>?_
 cases h2:iZ c with | false=>rfl | true=>?_
 rw[qi] at h1
 obtain⟨r,e,_⟩:=JP c hc (by simp only[len] at h1;omega) h2
 rw[e]
 rfl
theorem GL (c:Contract)(hc:fS c):Ij c=some (jo c):=by
 unfold Ij jo
 rw[S4 c.Parties hc.1,JF c hc,Option.bind_some,tq]
 cases h1:gn (len c.Clauses) 1 12 with | false=>cases pU c.Parties<;>rfl | true=>?_
 cases pU c.Parties with | false=>rfl | true=>?_
 cases h2:iZ c with | false=>rfl | true=>?_
 rw[qi] at h1
 obtain⟨r,e,e2,_⟩:=JP c hc (by simp only[len] at h1;omega) h2
 rw[e,e2]
 rfl
theorem jp {c:Contract}(h:jo c=true):1≤c.Clauses.length∧c.Clauses.length≤12∧pU c.Parties=true∧∀(i:Nat) e,c.Clauses[i]?=some e→jN c.Clauses e.Id=(i:Int)∧kg c (i:Int) e=true:=by
 simp only[jo,Bool.and_eq_true,qi] at h
 obtain⟨⟨⟨h1,h2⟩,h3⟩,h4,_⟩:=h
 simp only[len] at h1 h2
 exact⟨by omega,by omega,h3,wl.1 h4⟩
theorem qN (l:List Int)(n:Int)(m:Nat)(hm:m≤l.length)(hl:l.length≤1048576)(h1:∀(j:Nat) x,j<m→l[j]?=some x→x<n)(h2:∀x,l[m]?=some x→¬x<n):∀(k j:Nat),j+k=m→sK l n (j:Int)=some (.inr (n,(m:Int),l))
 | 0,j,hj=>by
  obtain rfl:j=m:=by omega
  rw[Cq,kJ,bp]
  by_cases h:j<l.length
  ·rw[decide_eq_true h,cond_true,bE,List.getElem?_eq_getElem h,Option.bind_some,iO,decide_eq_false (h2 _ (List.getElem?_eq_getElem h)),cond_false]
  ·rw[decide_eq_false h,cond_false,iO,cond_false]
 | k+1,j,hj=>by
  have h:j<l.length:=by omega
  rw[Cq,kJ,bp,decide_eq_true h,cond_true,bE,List.getElem?_eq_getElem h,Option.bind_some,iO,decide_eq_true (h1 j _ (by omega) (List.getElem?_eq_getElem h)),cond_true,b9 (by omega)]
  exact qN l n m hm hl h1 h2 k (j+1) (by omega)
theorem qC {b:Nat}{xs ys:List Int}(h:(xs.length+ys.length)*b≤1099511627776)(h2:xs.length+ys.length≤1099511627776):fA b xs ys=some (xs++ys):=by
 unfold fA
 rw[if_pos]
 simp only[lN]
 omega
theorem put_val (l : List Int)(n : Int)(hl : l.length ≤ 1000000)(hs : l.Pairwise (· < ·)) : ∃ r,vp l n=some r ∧ r.Pairwise (· < ·) ∧ (∀ x,x ∈ r ↔ x ∈ l ∨ x=n) ∧ r.length ≤ l.length + 1:=by
  have key : ∃ m,m ≤ l.length ∧ (∀ (j : Nat) x,j < m→l[j]?=some x→x < n) ∧ (∀ x,l[m]?=some x→¬ x < n):=by
    clear hl
    induction l with
    | nil=>exact ⟨0,by simp,fun j x hj=>by omega,fun x hx=>by simp at hx⟩
    | cons y l ih =>
      by_cases hy : y < n
      · obtain ⟨m,h1,h2,h3⟩:=ih (List.pairwise_cons.1 hs).2
        refine ⟨m + 1,by simp; omega,fun j x hj hx=>?_,fun x hx=>h3 x (by simpa using hx)⟩
        cases j with
        | zero=>simp at hx; omega
        | succ j=>exact h2 j x (by omega) (by simpa using hx)
      · exact ⟨0,by simp,fun j x hj=>by omega,fun x hx=>by simp at hx; omega⟩
  obtain ⟨m,hm,h1,h2⟩:=key
  have hlow : ∀ x ∈ l.take m,x < n:=by
    intro x hx
    obtain ⟨i,hi,rfl⟩:=List.mem_iff_getElem.1 hx
    rw [List.length_take] at hi
    rw [List.getElem_take]
    exact h1 i _ (by omega) (List.getElem?_eq_getElem (by omega))
  have hloop:=qN l n m hm (by omega) h1 h2 m 0 (by omega)
  rw [show ((0 : Nat) : Int)=0 from rfl] at hloop
  unfold vp
  rw [hloop]
  simp only [fx,bp]
  have s1 : gD l.length 0 (m : Int)=some ():=by unfold gD; rw [if_pos (by omega)]
  have s2 : gD l.length (m : Int) (len l)=some ():=by unfold gD; rw [if_pos (by simp only [len]; omega)]
  have p1 : gi l (0 + Int.toNat 0) (Int.toNat (m : Int) - Int.toNat 0)=some (l.take m):=by
    unfold gi
    simp only [Int.toNat_zero,Int.toNat_natCast,Nat.zero_add,Nat.sub_zero,List.drop_zero]
    rw [if_pos hm]
  have p2 : gi l (0 + Int.toNat (m : Int)) (Int.toNat (len l) - Int.toNat (m : Int))=some (l.drop m):=by
    unfold gi
    simp only [Int.toNat_natCast,Nat.zero_add,len]
    rw [if_pos (by omega),List.take_of_length_le (by rw [List.length_drop]; omega)]
  have a1 : fA 8 ([] : List Int) (l.take m)=some (l.take m):=by rw [qC (by simp only [List.length_nil,List.length_take]; omega) (by simp only [List.length_nil,List.length_take]; omega)]; rfl
  have a2 : fA 8 (l.take m) [n]=some (l.take m ++ [n]):=jM (by rw [List.length_take]; omega) (by rw [List.length_take]; omega)
  have a3 : fA 8 (l.take m ++ [n]) (l.drop m)=some (l.take m ++ [n] ++ l.drop m):=qC (by simp only [List.length_append,List.length_take,List.length_drop,List.length_singleton]; omega) (by simp only [List.length_append,List.length_take,List.length_drop,List.length_singleton]; omega)
  have hins : (∀ x ∈ l.drop m,n < x)→(l.take m ++ [n] ++ l.drop m).Pairwise (· < ·) ∧ (∀ x,x ∈ l.take m ++ [n] ++ l.drop m ↔ x ∈ l ∨ x=n) ∧ (l.take m ++ [n] ++ l.drop m).length ≤ l.length + 1:=by
    intro hhi
    have hs2:=hs
    rw [← List.take_append_drop m l,List.pairwise_append] at hs2
    refine ⟨List.pairwise_append.2 ⟨List.pairwise_append.2 ⟨hs2.1,List.pairwise_singleton _ _,fun x hx y hy=>?_⟩,hs2.2.1,fun x hx y hy=>?_⟩,fun x=>?_,?_⟩
    · rw [List.mem_singleton] at hy; subst hy; exact hlow x hx
    · rcases List.mem_append.1 hx with hx | hx
      · exact hs2.2.2 x hx y hy
      · rw [List.mem_singleton] at hx; subst hx; exact hhi y hy
    · have : x ∈ l ↔ x ∈ l.take m ∨ x ∈ l.drop m:=by
        rw [← List.mem_append,List.take_append_drop]
      rw [List.mem_append,List.mem_append,List.mem_singleton,this]
      constructor
      · rintro ((h | h) | h)
        · exact .inl (.inl h)
        · exact .inr h
        · exact .inl (.inr h)
      · rintro ((h | h) | h)
        · exact .inl (.inl h)
        · exact .inr h
        · exact .inl (.inr h)
    · simp only [List.length_append,List.length_take,List.length_drop,List.length_singleton]; omega
  by_cases hb : m < l.length
  · have hx:=List.getElem?_eq_getElem hb
    have hge:=h2 _ hx
    have hrest : ∀ x ∈ l.drop (m + 1),l[m] < x:=by
      intro x hx
      obtain ⟨i,hi,rfl⟩:=List.mem_iff_getElem.1 hx
      rw [List.length_drop] at hi
      rw [List.getElem_drop]
      exact List.pairwise_iff_getElem.1 hs m (m + 1 + i) hb (by omega) (by omega)
    rw [decide_eq_true hb,cond_true,bE,hx,Option.bind_some,fx,mU]
    by_cases he : l[m]=n
    · rw [decide_eq_true he,cond_true]
      refine ⟨l,rfl,hs,fun x=>⟨.inl,?_⟩,by omega⟩
      rintro (h | h)
      · exact h
      · rw [h,← he]; exact List.getElem_mem hb
    · rw [decide_eq_false he,cond_false]
      simp only [s1,p1,a1,a2,s2,p2,a3,Option.bind_some]
      refine ⟨_,rfl,hins ?_⟩
      intro x hx
      rw [List.drop_eq_getElem_cons hb] at hx
      rcases List.mem_cons.1 hx with rfl | hx
      · omega
      · have:=hrest x hx; omega
  · rw [decide_eq_false hb,cond_false,fx,cond_false]
    simp only [s1,p1,a1,a2,s2,p2,a3,Option.bind_some]
    refine ⟨_,rfl,hins ?_⟩
    intro x hx
    rw [List.drop_of_length_le (by omega)] at hx
    cases hx
mutual
def iP:Condition→List Int
 | ⟨op,_,day,parts⟩=>(if op=3 then [day] else [])++fB parts
def fB:List Condition→List Int
 | []=>[]
 | x::xs=>iP x++fB xs
end
theorem Jn (c:Condition):iP c=(if c.Op=3 then [c.Day] else [])++fB c.Parts:=by cases c;simp only[iP]
theorem D4:∀(a b:List Condition),fB (a++b)=fB a++fB b
 | [],b=>rfl
 | x::a,b=>by simp only[List.cons_append,fB,D4 a b,List.append_assoc]
theorem yG (a:List Condition)(i:Nat)(h:i<a.length):fB (a.take (i+1))=fB (a.take i)++iP a[i]:=by
 rw[List.take_add_one,List.getElem?_eq_getElem h,D4]
 simp[fB]
mutual
theorem re:∀c,(iP c).length≤aI c
 | ⟨op,name,day,parts⟩=>by
  have:=ub parts
  simp only[iP,aI,List.length_append]
  split<;>simp<;>omega
theorem ub:∀a,(fB a).length≤aC a
 | []=>by simp[fB]
 | x::a=>by
  have h1:=re x
  have h2:=ub a
  simp only[fB,aC,List.length_append]
  omega
end
theorem Gg (c:Condition):∀l:List Int,l.length+aI c≤1000000→LI c l=some (l++iP c):=by
 refine et (P:=fun c=>∀l:List Int,l.length+aI c≤1000000→LI c l=some (l++iP c)) ?_ c
 intro c ih l hl
 have hnc:=eg c
 have hpl:=eY c.Parts
 rw[WO]
 unfold wY
 have h0:(bif (c.Op==3) then ((fA 8 l [c.Day]).bind fun a8=>some (.inr a8)) else (some (.inr l)):Option (List Int⊕List Int))=some (.inr (l++if c.Op=3 then [c.Day] else [])):=by
  rw[mU]
  by_cases h:c.Op=3
  ·rw[decide_eq_true h,cond_true,jM (by omega) (by omega),if_pos h];rfl
  ·rw[decide_eq_false h,cond_false,if_neg h,List.append_nil]
 rw[h0,fx]
 have hlen:(l++if c.Op=3 then [c.Day] else []).length≤l.length+1:=by
  rw[List.length_append];split<;>simp
 rw[Jn,←List.append_assoc]
 generalize (l++if c.Op=3 then [c.Day] else [])=l1 at hlen ⊢
 obtain⟨y,h1,h2⟩:=ka (L:=fun i (s:List Int)=>ni (aA ng) c l ((i:Int),s)) c.Parts.length (fun i s=>s=l1++fB (c.Parts.take i)) (fun y=>y=.inr (l1++fB c.Parts)) (s:=l1)
  (by
   intro i s hi hj
   have hx:=List.getElem?_eq_getElem hi
   have h3:=mV c.Parts i hi
   have h4:=iU c.Parts (i+1)
   have h5:=ub (c.Parts.take i)
   refine .inl ⟨l1++fB (c.Parts.take (i+1)),rfl,?_⟩
   show ni (aA ng) c l ((i:Int),s)=_
   rw[FT,kU]
   simp only[bp,decide_eq_true hi,cond_true,bE,hx,Option.bind_some]
   rw[show aA ng (c.Parts[i],s)=_ from ih _ (List.getElem_mem hi) s (by rw[hj,List.length_append];omega),Option.bind_some,b9 (by omega),hj,yG _ _ hi,List.append_assoc])
  (by
   intro s hj
   refine⟨_,rfl,?_⟩
   rw[List.take_length] at hj
   show ni (aA ng) c l ((c.Parts.length:Int),s)=_
   rw[FT,kU]
   simp only[bp,decide_eq_false (Nat.lt_irrefl _),cond_false]
   rw[hj]) (by simp[fB])
 rw[show ni (aA ng) c l (0,l1)=some y from h2,h1]
 rfl
theorem GE (c : Condition) : d5 c=true→∀ l : List Int,l.length + aI c ≤ 1000000→l.Pairwise (· < ·)→∃ r,vr l c=some r ∧ r.Pairwise (· < ·) ∧ (∀ x,x ∈ r ↔ x ∈ l ∨ x ∈ iP c) ∧ r.length ≤ l.length + aI c:=by
  refine et (P:=fun c=>d5 c=true→∀ l : List Int,l.length + aI c ≤ 1000000→l.Pairwise (· < ·)→∃ r,vr l c=some r ∧ r.Pairwise (· < ·) ∧ (∀ x,x ∈ r ↔ x ∈ l ∨ x ∈ iP c) ∧ r.length ≤ l.length + aI c) ?_ c
  intro c ih hf l hl hs
  have hnc:=eg c
  have hpl:=eY c.Parts
  rw [pe,Bool.and_eq_true,List.all_eq_true] at hf
  rw [Lx]
  unfold sL
  rw [mU,Jn]
  by_cases ho : c.Op=3
  · obtain ⟨r,e,r1,r2,r3⟩:=put_val l c.Day (by omega) hs
    rw [decide_eq_true ho,cond_true,e,if_pos ho,D8 hf.1 (.inr ho)]
    exact ⟨r,rfl,r1,fun x=>by rw [r2]; simp [fB],by omega⟩
  rw [decide_eq_false ho,cond_false,if_neg ho,List.nil_append]
  obtain ⟨y,h1,h2⟩:=ka (L:=fun i (s : List Int)=>jd (aA iq) l c ((i : Int),s)) c.Parts.length
    (fun i s=>s.Pairwise (· < ·) ∧ (∀ x,x ∈ s ↔ x ∈ l ∨ x ∈ fB (c.Parts.take i)) ∧ s.length ≤ l.length + aC (c.Parts.take i))
    (fun y=>∃ r,y=.inr r ∧ r.Pairwise (· < ·) ∧ (∀ x,x ∈ r ↔ x ∈ l ∨ x ∈ fB c.Parts) ∧ r.length ≤ l.length + aI c) (s:=l)
    (by
      rintro i s hi ⟨j1,j2,j3⟩
      have hx:=List.getElem?_eq_getElem hi
      have h3:=mV c.Parts i hi
      have h4:=iU c.Parts (i + 1)
      obtain ⟨r,e,r1,r2,r3⟩:=ih _ (List.getElem_mem hi) (hf.2 _ (List.getElem_mem hi)) s (by omega) j1
      refine .inl ⟨r,⟨r1,fun x=>?_,by omega⟩,?_⟩
      · rw [r2,j2,yG _ _ hi,List.mem_append,or_assoc]
      show jd (aA iq) l c ((i : Int),s)=_
      rw [pI,iJ]
      simp only [bp,decide_eq_true hi,cond_true,bE,hx,Option.bind_some]
      rw [show aA iq (s,c.Parts[i])=_ from e,Option.bind_some,b9 (by omega)])
    (by
      rintro s ⟨j1,j2,j3⟩
      rw [List.take_length] at *
      refine ⟨.inr s,⟨s,rfl,j1,j2,by omega⟩,?_⟩
      show jd (aA iq) l c ((c.Parts.length : Int),s)=_
      rw [pI,iJ]
      simp only [bp,decide_eq_false (Nat.lt_irrefl _),cond_false]) ⟨hs,fun x=>by simp [fB],by simp [aC]⟩
  obtain ⟨r,rfl,hr⟩:=h1
  rw [show jd (aA iq) l c (0,l)=some (.inr r) from h2]
  exact ⟨r,rfl,hr⟩
theorem SZ {c:Condition}(h:pO c=true):(c.Op=1∧c.Parts=[])∨(c.Op=2∧c.Parts=[])∨(c.Op=3∧c.Parts=[])∨(c.Op=4∧∃p,c.Parts=[p])∨(c.Op=5∧∃p q,c.Parts=[p,q])∨(c.Op=6∧∃p q,c.Parts=[p,q]):=by
 rw[uh,AW,Kh] at h
 rw[Bool.and_eq_true,Bool.and_eq_true,decide_eq_true_iff,qi] at h
 obtain⟨⟨⟨h1,h2⟩,h3⟩,_⟩:=h
 have ho:c.Op=1∨c.Op=2∨c.Op=3∨c.Op=4∨c.Op=5∨c.Op=6:=by omega
 have two:∀{a:List Condition},a.length=2→∃p q,a=[p,q]:=fun {a} h=>by
  match a,h with
  | [p,q],_=>exact⟨p,q,rfl⟩
 have one:∀{a:List Condition},a.length=1→∃p,a=[p]:=fun {a} h=>by
  match a,h with
  | [p],_=>exact⟨p,rfl⟩
 rcases ho with h | h | h | h | h | h<;>simp only[h] at h3 ⊢
 ·exact .inl ⟨trivial,List.length_eq_zero_iff.1 (by simpa using h3)⟩
 ·exact .inr (.inl ⟨trivial,List.length_eq_zero_iff.1 (by simpa using h3)⟩)
 ·exact .inr (.inr (.inl ⟨trivial,List.length_eq_zero_iff.1 (by simpa using h3)⟩))
 ·exact .inr (.inr (.inr (.inl ⟨trivial,one (by simpa using h3)⟩)))
 ·exact .inr (.inr (.inr (.inr (.inl ⟨trivial,two (by simpa using h3)⟩))))
 ·exact .inr (.inr (.inr (.inr (.inr ⟨trivial,two (by simpa using h3)⟩))))
theorem Jl (a:List ac)(s:ac)(ha:a.length≤1048576):oe a s=some (a.contains s):=by
 unfold oe vo
 rw[tn (L:=oh a s) (a:=a) (p:=fun e=>some (s==e)) (q:=fun e=>s==e) (fun _ _=>rfl) (fun x=>by rw[tJ,jG]<;>rfl) (by omega)]
 cases h:a.findIdx? (fun e=>s==e) with
 | none=>
  have:a.contains s=false:=by
   rw[List.findIdx?_eq_none_iff] at h
   rw[Bool.eq_false_iff]
   intro hc
   rw[List.contains_iff_exists_mem_beq] at hc
   obtain⟨w,hw,he⟩:=hc
   rw[h w hw] at he
   cases he
  rw[this]
  rfl
 | some i=>
  have:a.contains s=true:=by
   rw[List.findIdx?_eq_some_iff_getElem] at h
   obtain⟨hi,he,_⟩:=h
   rw[List.contains_iff_exists_mem_beq]
   exact⟨_,List.getElem_mem hi,he⟩
  rw[this]
  simp
theorem Vn (a:List ac)(s:ac)(ha:a.length≤1048576):rD a s=some (a.contains s):=by
 unfold rD
 rw[xg (L:=qd a s) (a:=a) (p:=fun e=>some (e==s)) (r:=true) (q:=fun e=>e==s) (fun x _=>rfl) (fun x=>by rw[CD,kL]<;>rfl) (by omega)]
 have:a.any (fun e=>e==s)=a.contains s:=by
  rw[List.contains_eq_any_beq]
  congr 1
  funext e
  exact Bool.beq_comm
 rw[this]
 cases a.contains s<;>rfl
theorem LZ (c:Condition):d5 c=true→∀(f:List ac) (d:Int),f.length≤1048576→∃b,tN c f d=some b∧FY c f d=some b:=by
 refine et (P:=fun c=>d5 c=true→∀(f:List ac) (d:Int),f.length≤1048576→∃b,tN c f d=some b∧FY c f d=some b) ?_ c
 intro c ih hf f d hl
 rw[pe,Bool.and_eq_true,List.all_eq_true] at hf
 obtain⟨hf,hp⟩:=hf
 rw[LD,WR]
 unfold sN xc
 have g0:∀{p:Condition} {l:List Condition},aM (p::l) 0=some p:=rfl
 have g1:∀{p q:Condition} {l:List Condition},aM (p::q::l) 1=some q:=rfl
 rcases SZ hf with⟨o,e⟩ | ⟨o,e⟩ | ⟨o,e⟩ | ⟨o,p,e⟩ | ⟨o,p,q,e⟩ | ⟨o,p,q,e⟩
 ·exact⟨true,by rw[o];rfl,by rw[o];rfl⟩
 ·exact⟨f.contains c.Name,by rw[o,Vn f _ hl];rfl,by rw[o,Jl f _ hl];rfl⟩
 ·exact⟨decide (d≥c.Day),by rw[o];rfl,by rw[o];rfl⟩
 ·rw[e] at ih hp
  obtain⟨b,h1,h2⟩:=ih p (by simp) (hp p (by simp)) f d hl
  refine⟨!b,?_,?_⟩
  ·rw[o,e]
   simp only[Int.reduceBEq,cond_false,cond_true]
   rw[g0,Option.bind_some,show aA jg (p,f,d)=_ from h1];rfl
  ·rw[o,e]
   simp only[Int.reduceBEq,cond_false,cond_true]
   rw[g0,Option.bind_some,show aA nm (p,f,d)=_ from h2];rfl
 ·rw[e] at ih hp
  obtain⟨b,h1,h2⟩:=ih p (by simp) (hp p (by simp)) f d hl
  obtain⟨b',h3,h4⟩:=ih q (by simp) (hp q (by simp)) f d hl
  refine⟨b&&b',?_,?_⟩
  ·rw[o,e]
   simp only[Int.reduceBEq,cond_false,cond_true]
   rw[g0,g1,Option.bind_some,show aA jg (p,f,d)=_ from h1,Option.bind_some]
   cases b with
   | false=>rfl
   | true=>rw[cond_true,Option.bind_some,show aA jg (q,f,d)=_ from h3];rfl
  ·rw[o,e]
   simp only[Int.reduceBEq,cond_false,cond_true]
   rw[g0,g1,Option.bind_some,show aA nm (p,f,d)=_ from h2,Option.bind_some]
   cases b with
   | false=>rfl
   | true=>rw[cond_true,Option.bind_some,show aA nm (q,f,d)=_ from h4];rfl
 ·rw[e] at ih hp
  obtain⟨b,h1,h2⟩:=ih p (by simp) (hp p (by simp)) f d hl
  obtain⟨b',h3,h4⟩:=ih q (by simp) (hp q (by simp)) f d hl
  refine⟨b||b',?_,?_⟩
  ·rw[o,e]
   simp only[Int.reduceBEq,cond_false,cond_true]
   rw[g0,g1,Option.bind_some,show aA jg (p,f,d)=_ from h1,Option.bind_some]
   cases b with
   | true=>rfl
   | false=>rw[cond_false,Option.bind_some,show aA jg (q,f,d)=_ from h3];rfl
  ·rw[o,e]
   simp only[Int.reduceBEq,cond_false,cond_true]
   rw[g0,g1,Option.bind_some,show aA nm (p,f,d)=_ from h2,Option.bind_some]
   cases b with
   | true=>rfl
   | false=>rw[cond_false,Option.bind_some,show aA nm (q,f,d)=_ from h4];rfl
noncomputable def kt (c:Condition)(f:List ac)(d:Int):Bool:=(FY c f d).getD false
theorem GG {c:Condition}(h:d5 c=true){f:List ac}{d:Int}(hl:f.length≤1048576):tN c f d=some (kt c f d):=by
 obtain⟨b,h1,h2⟩:=LZ c h f d hl
 unfold kt
 rw[h1,h2];rfl
theorem Gi {c:Condition}(h:d5 c=true){f:List ac}{d:Int}(hl:f.length≤1048576):FY c f d=some (kt c f d):=by
 obtain⟨b,h1,h2⟩:=LZ c h f d hl
 unfold kt
 rw[h2];rfl
theorem A8 {n:Nat}(h:n≤1048576):IntKind.u64.wrap (n:Int)=(n:Int):=by
 show (n:Int) % 18446744073709551616=n
 omega
theorem Q6 (a b:Condition)(h:Bool)(names:List ac)(m:Int)(days:List Int)(q:Int)(hl:names.length≤1000):∃f,rF names m=some f∧qx a b h names m days q (0,[])=some (.inr f)∧f.length≤names.length:=by
 have key:∀(k i:Nat) (out:List ac),i+k=names.length→out.length≤i→∃f,qf names m ((i:Int),out)=some (.inr f)∧qx a b h names m days q ((i:Int),out)=some (.inr f)∧f.length≤names.length:=by
  intro k
  induction k with
  | zero=>
   intro i out hi ho
   refine⟨out,?_,?_,by omega⟩
   ·rw[CX,kQ]
    simp only[bp,decide_eq_false (show ¬i<names.length by omega),cond_false]
   ·rw[F1,mh]
    simp only[bp,decide_eq_false (show ¬i<names.length by omega),cond_false]
  | succ k ih=>
   intro i out hi ho
   have hi1:i<names.length:=by omega
   have hx:=List.getElem?_eq_getElem hi1
   have hs:FC .i64 m (i:Int)=some (Tr .i64 m (i:Int)):=by unfold FC;rw[if_neg (by omega)]
   rw[CX,kQ,F1,mh]
   simp only[bp,decide_eq_true hi1,cond_true,bE,hx,Option.bind_some,A8 (show i≤1048576 by omega),hs,b9 (show i<9223372036854775807 by omega)]
   cases Jb .i64 (Tr .i64 m (i:Int)) 1==1 with
   | false=>exact ih (i+1) out (by omega) (by omega)
   | true=>
    rw[cond_true,cond_true,jM (by omega) (by omega)]
    exact ih (i+1) (out++[names[i]]) (by omega) (by rw[List.length_append,List.length_singleton];omega)
 obtain⟨f,h1,h2,h3⟩:=key names.length 0 [] (by omega) (by simp)
 refine⟨f,?_,h2,h3⟩
 unfold rF
 rw[show qf names m (0,[])=_ from h1]
 rfl
theorem QH {l r:List ac}{b:Condition}(h:qs l b=some r):qs l ⟨4,[],0,[b]⟩=some r:=by
 rw[LF]
 show (bn (ρ:=List ac) (ji (aA ir) l ⟨4,[],0,[b]⟩ (0,l)) fun u7:(List ac)=>some u7)=_
 rw[pJ,iK]
 show (bn (ρ:=List ac) ((aA ir (l,b)).bind fun r6=>ji (aA ir) l ⟨4,[],0,[b]⟩ (aj (0+1),r6)) fun u7:(List ac)=>some u7)=_
 rw[show aA ir (l,b)=_ from h,Option.bind_some,pJ]
 rfl
theorem SS {l r:List Int}{b:Condition}(h:vr l b=some r):vr l ⟨4,[],0,[b]⟩=some r:=by
 rw[Lx]
 show (bn (ρ:=List Int) (jd (aA iq) l ⟨4,[],0,[b]⟩ (0,l)) fun u7:(List Int)=>some u7)=_
 rw[pI,iJ]
 show (bn (ρ:=List Int) ((aA iq (l,b)).bind fun r6=>jd (aA iq) l ⟨4,[],0,[b]⟩ (aj (0+1),r6)) fun u7:(List Int)=>some u7)=_
 rw[show aA iq (l,b)=_ from h,Option.bind_some,pI]
 rfl
theorem Qq {f:List ac}{d:Int}{b:Condition}{r:Bool}(h:tN b f d=some r):tN ⟨4,[],0,[b]⟩ f d=some (!r):=by
 rw[LD]
 show ((aA jg (b,f,d)).bind fun r6=>some (!r6))=_
 rw[show aA jg (b,f,d)=_ from h]
 rfl
theorem FB {n:Nat}(h:n≤40):A5 .i64 1 (n:Int)=some ((2 ^ n:Nat):Int):=by
 have h2:2 ^ n≤1099511627776:=Nat.pow_le_pow_right (n:=2) (by omega) h
 unfold A5
 rw[if_neg (by omega),Xq,Int.one_mul,Int.toNat_natCast,show min n IntKind.i64.bits=n from Nat.min_eq_left (show n≤64 by omega)]
 rw[show ((2:Int) ^ n)=((2 ^ n:Nat):Int) by simp]
 generalize 2 ^ n=z at h2
 congr 1
 exact eC (by omega) (by omega)
theorem Vs (a b:Condition)(ha:d5 a=true)(hb:d5 b=true)(hna:aI a≤1000)(hnb:aI b≤1000) :
  ∃few r,rC a b=some few∧DL a b true=some (bif few then (r,true) else (false,false))∧(few=true→tK a b=some r):=by
 obtain⟨n1,e1,p1,m1,l1⟩:=uI a ha [] (by simp;omega) List.Pairwise.nil
 obtain⟨N,e2,p2,m2,l2⟩:=uI b hb n1 (by simp at l1;omega) p1
 have hN:DK (iz a++iz b)=some N:=LL _ _ (by have:=nK a;have:=nK b;rw[List.length_append];omega) p2 fun x=>by rw[m2,m1,List.mem_append];simp
 have a1:=um a [] (by simp;omega)
 have a2:=um b ([]++iz a) (by have:=nK a;simp;omega)
 simp only[List.nil_append] at a1 a2
 have hlen:N.length≤2000:=by simp at l1;omega
 have hfew:rC a b=some (decide (N.length≤10)):=by
  unfold rC
  rw[e1,Option.bind_some,e2,Option.bind_some]
  congr 1
  by_cases h:N.length≤10
  ·rw[decide_eq_true h,decide_eq_true];simp only[len];omega
  ·rw[decide_eq_false h,decide_eq_false];simp only[len];omega
 by_cases h10:¬N.length≤10
 ·refine⟨false,false,by rw[hfew,decide_eq_false h10],?_,fun h=>by cases h⟩
  unfold DL
  rw[a1,Option.bind_some,a2,Option.bind_some,hN,Option.bind_some,decide_eq_true (by simp only[len];omega)]
  rfl
 replace h10:N.length≤10:=Decidable.not_not.1 h10
 obtain⟨d1,f1,q1,k1,g1⟩:=GE a ha [] (by simp;omega) List.Pairwise.nil
 obtain⟨d2,f2,q2,k2,g2⟩:=GE b hb d1 (by simp at g1;omega) q1
 obtain⟨D,f3,q3,k3,g3⟩:=put_val d2 0 (by simp at g1;omega) q2
 have b1:=Gg a [0] (by simp;omega)
 have b2:=Gg b ([0]++iP a) (by have:=re a;simp;omega)
 have hmem:∀x,x∈D↔x∈[0]++iP a++iP b:=fun x=>by
  rw[k3,k2,k1,List.mem_append,List.mem_append]
  simp only[List.not_mem_nil,false_or,List.mem_singleton]
  constructor
  ·rintro ((h | h) | h)
   ·exact .inl (.inr h)
   ·exact .inr h
   ·exact .inl (.inl h)
  ·rintro ((h | h) | h)
   ·exact .inr h
   ·exact .inl (.inl h)
   ·exact .inl (.inr h)
 have hD2:D.length≤3000:=by simp at g1;omega
 have hE2:([0]++iP a++iP b).length≤3000:=by have:=re a;have:=re b;simp;omega
 generalize ([0]++iP a++iP b)=E at *
 have pw:2 ^ N.length≤2 ^ 10:=Nat.pow_le_pow_right (by omega) h10
 let F:Nat→List ac:=fun i=>(rF N (i:Int)).getD []
 have hF:∀i:Nat,rF N (i:Int)=some (F i)∧(∀h days q,qx a b h N (i:Int) days q (0,[])=some (.inr (F i)))∧(F i).length≤1000:=by
  intro i
  have h0:=Q6 a b true N (i:Int) E 0 (by omega)
  obtain⟨f,z1,z2,z3⟩:=h0
  have hf:F i=f:=by show (rF N (i:Int)).getD []=f;rw[z1];rfl
  refine⟨by rw[z1,hf],fun h days q=>?_,by rw[hf];omega⟩
  obtain⟨f',y1,y2,y3⟩:=Q6 a b h N (i:Int) days q (by omega)
  rw[z1] at y1
  cases y1
  rw[hf];exact y2
 let Q:Nat→Int→Bool:=fun i d=>kt a (F i) d&&kt b (F i) d
 have hany:∀i,D.any (Q i)=E.any (Q i):=fun i=>by
  rw[Bool.eq_iff_iff,List.any_eq_true,List.any_eq_true]
  constructor
  ·rintro⟨x,h1,h2⟩;exact⟨x,(hmem x).1 h1,h2⟩
  ·rintro⟨x,h1,h2⟩;exact⟨x,(hmem x).2 h1,h2⟩
 have hsb:∀i:Nat,mI a ⟨4,[],0,[b]⟩ D (F i) N (i:Int) 0=some (if D.any (Q i) then .inl false else .inr ()):=by
  intro i
  have hl:=(hF i).2.2
  refine ml (L:=fun j=>mI a ⟨4,[],0,[b]⟩ D (F i) N (i:Int) (j:Int)) (fun j x hx=>?_) ?_
  ·obtain⟨hj,_⟩:=List.getElem?_eq_some_iff.1 hx
   show mI a ⟨4,[],0,[b]⟩ D (F i) N (i:Int) (j:Int)=_
   rw[CL,kN,bp,decide_eq_true hj,cond_true,bE,hx,Option.bind_some,GG ha (by omega),Option.bind_some,Option.bind_some,Qq (GG hb (by omega)),Option.bind_some,b9 (by omega)]
   show _=bif kt a (F i) x&&kt b (F i) x then _ else _
   cases kt a (F i) x<;>cases kt b (F i) x<;>rfl
  ·show mI a ⟨4,[],0,[b]⟩ D (F i) N (i:Int) (D.length:Int)=_
   rw[CL,kN,bp,decide_eq_false (Nat.lt_irrefl _),cond_false]
 have hib:∀i:Nat,pa a b true E (F i) N ((2 ^ N.length:Nat):Int) (i:Int) 0=some (if E.any (Q i) then .inl (true,true) else .inr ()):=by
  intro i
  have hl:=(hF i).2.2
  refine ml (L:=fun j=>pa a b true E (F i) N ((2 ^ N.length:Nat):Int) (i:Int) (j:Int)) (fun j x hx=>?_) ?_
  ·obtain⟨hj,_⟩:=List.getElem?_eq_some_iff.1 hx
   show pa a b true E (F i) N ((2 ^ N.length:Nat):Int) (i:Int) (j:Int)=_
   rw[F2,mi,bp,decide_eq_true hj,cond_true,bE,hx,Option.bind_some,Gi ha (by omega),Option.bind_some,Gi hb (by omega),Option.bind_some,b9 (by omega)]
   show _=bif kt a (F i) x&&kt b (F i) x then _ else _
   cases kt a (F i) x<;>cases kt b (F i) x<;>rfl
  ·show pa a b true E (F i) N ((2 ^ N.length:Nat):Int) (i:Int) (E.length:Int)=_
   rw[F2,mi,bp,decide_eq_false (Nat.lt_irrefl _),cond_false]
 let R:Bool:=(List.range (2 ^ N.length)).any fun i=>E.any (Q i)
 have rl:(List.range (2 ^ N.length)).length=2 ^ N.length:=List.length_range
 refine⟨true,R,by rw[hfew,decide_eq_true h10],?_,fun _=>?_⟩
 ·unfold DL
  have hL:=ml (a:=List.range (2 ^ N.length)) (q:=fun i=>E.any (Q i)) (y0:=(Sum.inl (true,true):(Bool×Bool)⊕Unit)) (y1:=.inr ()) (L:=fun i=>o9 a b true ((2 ^ N.length:Nat):Int) N E (i:Int))
   (fun i x hx=>by
    obtain⟨hi,hx'⟩:=List.getElem?_eq_some_iff.1 hx
    rw[List.getElem_range] at hx'
    subst hx'
    rw[rl] at hi
    show o9 a b true ((2 ^ N.length:Nat):Int) N E (i:Int)=_
    rw[F0,mg,decide_eq_true (by omega),cond_true,(hF i).2.1,iO,hib,b9 (by omega)]
    cases E.any (Q i)<;>rfl)
   (by
    rw[rl]
    show o9 a b true ((2 ^ N.length:Nat):Int) N E ((2 ^ N.length:Nat):Int)=_
    rw[F0,mg,decide_eq_false (by omega),cond_false])
  rw[a1,Option.bind_some,a2,Option.bind_some,hN,Option.bind_some,decide_eq_false (by simp only[len];omega),cond_false,b1,Option.bind_some,b2,Option.bind_some,show A5 .i64 1 (len N)=_ from FB (by omega),Option.bind_some]
  rw[show o9 a b true ((2 ^ N.length:Nat):Int) N E 0=_ from hL]
  show _=some (R,true)
  show bn (some (if R=true then _ else _)) _=_
  cases R<;>rfl
 ·unfold tK EU
  have hL:=ml (a:=List.range (2 ^ N.length)) (q:=fun i=>E.any (Q i)) (y0:=(Sum.inl false:Bool⊕Unit)) (y1:=.inr ()) (L:=fun i=>mH a ⟨4,[],0,[b]⟩ N D (i:Int))
   (fun i x hx=>by
    obtain⟨hi,hx'⟩:=List.getElem?_eq_some_iff.1 hx
    rw[List.getElem_range] at hx'
    subst hx'
    rw[rl] at hi
    show mH a ⟨4,[],0,[b]⟩ N D (i:Int)=_
    rw[CK,kM,show IntKind.u64.wrap (len N)=_ from A8 (by omega),FB (by omega),Option.bind_some,decide_eq_true (by omega),cond_true,(hF i).1,Option.bind_some,hsb,hany,b9 (by omega)]
    cases E.any (Q i)<;>rfl)
   (by
    rw[rl]
    show mH a ⟨4,[],0,[b]⟩ N D ((2 ^ N.length:Nat):Int)=_
    rw[CK,kM,show IntKind.u64.wrap (len N)=_ from A8 (by omega),FB (by omega),Option.bind_some,decide_eq_false (by omega),cond_false])
  rw[e1,Option.bind_some,QH e2,Option.bind_some,f1,Option.bind_some,SS f2,Option.bind_some,f3,Option.bind_some]
  rw[show mH a ⟨4,[],0,[b]⟩ N D 0=_ from hL]
  show (bn (some (if R=true then _ else _)) _).bind _=some R
  cases R<;>rfl
theorem uQ (k0:Int):∀(n:Nat) (k:Int) (s:ac),k<((10 ^ n:Nat):Int)→k<9223372036854775808→s.length+n≤100→∃r,sx k0 (k,s)=some (.inr r)∧r.length≤100
 | 0,k,s,hk,hb,hs=>by
  rw[BE,kD,decide_eq_false (show ¬k>0 by simp at hk;omega),cond_false]
  exact⟨_,rfl,by show s.length≤100;omega⟩
 | n+1,k,s,hk,hb,hs=>by
  rw[BE,kD]
  by_cases h:k>0
  ·rw[decide_eq_true h,cond_true]
   unfold AG
   have h10:k.tdiv 10=k / 10:=Int.tdiv_eq_ediv_of_nonneg (by omega)
   rw[if_pos (by simp only[List.length_map,List.length_cons,List.length_nil];omega),Option.bind_some,h10,eC (by omega) (by omega)]
   refine uQ k0 n (k / 10) _ ?_ (by omega) (by simp only[List.length_append,List.length_map,List.length_cons,List.length_nil];omega)
   rw[Nat.pow_succ] at hk
   omega
  ·rw[decide_eq_false h,cond_false]
   exact⟨_,rfl,by show s.length≤100;omega⟩
theorem GM (k:Int)(h:k≤4611686018427387904):∃r,nc k=some r:=by
 unfold nc
 by_cases h0:k≤0
 ·rw[decide_eq_true h0,cond_true]
  exact⟨_,rfl⟩
 ·rw[decide_eq_false h0,cond_false]
  obtain⟨r,hr,hl⟩:=uQ k 19 k [] (by omega) (by omega) (by decide)
  rw[hr]
  show ∃r',(AG [109] r).bind (fun s5=>some s5)=some r'
  unfold AG
  rw[if_pos (by simp only[List.length_cons,List.length_nil];omega),Option.bind_some]
  exact⟨_,rfl⟩
noncomputable def pi (k:Int):ac:=(nc k).getD []
theorem kn {k:Int}(h:k≤4611686018427387904):nc k=some (pi k):=by
 obtain⟨r,hr⟩:=GM k h
 unfold pi
 rw[hr]
 rfl
noncomputable def wr (k:Int)(e:ac):Int×ac:=(k+1,pi k)
theorem JL (a:List ac)(ha:a.length≤1048576){k:Int}(h0:0≤k)(hM:k≤4000000000000000000):∃k' a',zt a k=some (k',a')∧a'.length=a.length∧k≤k'∧k'≤k+1048576:=by
 have h1:=nI (g:=wr) (fun k x=>by show k≤k+1;omega) (xs:=a) (k:=k)
 have h2:=AQ (g:=wr) (c:=1) (fun k x=>by show k+1≤k+(1:Nat);omega) (xs:=a) (k:=k)
 refine⟨(dG wr k a).1,(dG wr k a).2,?_,ph,h1,by omega⟩
 unfold zt
 rw[JJ (L:=sv a k) (g:=wr) (M:=4611686018427387904) (fun k x=>by show k≤k+1;omega) ?_ ?_ h0 (by omega) (by omega)]
 ·show (bif Nat.beq (dG wr k a).2.length a.length then some ((dG wr k a).1,(dG wr k a).2) else none)=_
  rw[ph,Nat.beq_refl]
  rfl
 ·intro k i xs e h0 h1 hi he
  have h1':k+1≤4611686018427387904:=h1
  obtain⟨hi',_⟩:=List.getElem?_eq_some_iff.1 he
  have w1:aj (k+1)=k+1:=eC (by omega) (by omega)
  rw[BB,kC,bp,decide_eq_true hi',cond_true,kn (by omega),Option.bind_some,bE,he,Option.bind_some,mt,w1,b9 (by omega)]
  rfl
 ·intro k i xs hi
  rw[BB,kC,bp,decide_eq_false (show ¬i<xs.length by omega),cond_false]
def MX (a:List Condition):Prop:=∀k:Int,0≤k→k+((3*aC a:Nat):Int)≤4611686018427387000→∃k' a',Mm a k=some (k',a')∧a'.length=a.length∧k≤k'∧k'≤k+((3*aC a:Nat):Int)
theorem Nv (a:List Condition)(ha:a.length≤1048576)(ih:∀x∈a,MX x.Parts):MX a:=by
 intro k h0 hM
 rw[Uk]
 unfold sr
 obtain⟨y,⟨k',a',rfl,e1,e2,e3⟩,h2⟩:=ka (L:=fun i (s:Int×List Condition)=>ls (aA kA) a k (s.1,(i:Int),s.2)) a.length
  (fun i s=>k≤s.1∧s.1≤k+((3*aC (a.take i):Nat):Int)∧s.2.length=a.length∧∀j,i≤j→s.2[j]?=a[j]?)
  (fun y=>∃k' a',y=.inr (k',a')∧a'.length=a.length∧k≤k'∧k'≤k+((3*aC a:Nat):Int)) (s:=(k,a))
  (by
   rintro i ⟨q,xs⟩ hi ⟨j1,j2,j3,j4⟩
   simp only at j1 j2 j3 j4
   have h3:=mV a i hi
   have h4:=iU a (i+1)
   have h5:=eg a[i]
   have he:xs[i]?=some a[i]:=by rw[j4 i (Nat.le_refl _)];exact List.getElem?_eq_getElem hi
   have hi':i<xs.length:=by omega
   obtain⟨k',p',f1,f2,f3,f4⟩:=ih _ (List.getElem_mem hi) (q+3) (by omega) (by omega)
   have w1:aj (q+1)=q+1:=eC (by omega) (by omega)
   have w2:aj (q+1+1)=q+2:=by rw[eC (by omega) (by omega)];omega
   have w3:aj (q+2+1)=q+3:=by rw[eC (by omega) (by omega)];omega
   refine .inl ⟨(k',xs.set i ⟨q,pi (q+1),q+2,p'⟩),⟨by simp only;omega,by simp only;omega,by simpa using j3,fun j hj=>?_⟩,?_⟩
   ·rw[List.getElem?_set_ne (by omega)];exact j4 j (by omega)
   ·show ls (aA kA) a k (q,(i:Int),xs)=_
    rw[Br,jE]
    simp only[bp,decide_eq_true hi',cond_true,gU,bE,mt,he,Option.bind_some,w1,w2,w3,kn (show q+1≤4611686018427387904 by omega),List.getElem?_set_self,List.length_set,hi',decide_true,List.set_set]
    rw[show aA kA (a[i].Parts,q+3)=_ from f1,Option.bind_some]
    simp only[f2,Nat.beq_refl,cond_true,b9 (show i<9223372036854775807 by omega)])
  (by
   rintro⟨q,xs⟩ ⟨j1,j2,j3,j4⟩
   simp only at j1 j2 j3 j4
   rw[List.take_length] at j2
   refine⟨_,⟨q,xs,rfl,j3,j1,j2⟩,?_⟩
   show ls (aA kA) a k (q,(a.length:Int),xs)=_
   rw[Br,jE]
   simp only[bp,decide_eq_false (show ¬a.length<xs.length by omega),cond_false])
  ⟨Int.le_refl k,by simp[aC],rfl,fun _ _=>rfl⟩
 refine⟨k',a',?_,e1,e2,e3⟩
 rw[show ls (aA kA) a k (k,0,a)=some (.inr (k',a')) from h2,fx]
 simp only[e1,Nat.beq_refl,cond_true]
theorem Nw (c:Condition):aC c.Parts≤1048576→MX c.Parts:=by
 refine et (P:=fun c=>aC c.Parts≤1048576→MX c.Parts) ?_ c
 intro c ih h
 have hl:=eY c.Parts
 refine Nv c.Parts (by omega) fun x hx=>ih x hx ?_
 obtain⟨i,hi,rfl⟩:=List.mem_iff_getElem.1 hx
 have h1:=Xg hi
 have h2:=eg c.Parts[i]
 omega
theorem JK (a:List Clause)(ha:oc gb a){k:Int}(h0:0≤k)(hM:k≤1099511627776):∃k' a',zl a k=some (k',a')∧a'.length=a.length∧k≤k'∧k'≤k+4000000*1048576:=by
 have hal:a.length≤1048576:=ha.1
 unfold zl
 obtain⟨y,⟨k',a',rfl,e1,e2,e3⟩,h2⟩:=ka (L:=fun i (s:Int×List Clause)=>mB a k (s.1,(i:Int),s.2)) a.length
  (fun i s=>k≤s.1∧s.1≤k+4000000*(i:Int)∧s.2.length=a.length∧∀j,i≤j→s.2[j]?=a[j]?)
  (fun y=>∃k' a',y=.inr (k',a')∧a'.length=a.length∧k≤k'∧k'≤k+4000000*1048576) (s:=(k,a))
  (by
   rintro i ⟨q,xs⟩ hi ⟨j1,j2,j3,j4⟩
   simp only at j1 j2 j3 j4
   have he:xs[i]?=some a[i]:=by rw[j4 i (Nat.le_refl _)];exact List.getElem?_eq_getElem hi
   have hi':i<xs.length:=by omega
   have hs:=(fH _).1 (ha.2 _ (List.getElem_mem hi)).2.2.2.2.2.2.1
   have hnc:=hs.2.2.2.2
   obtain⟨k',p',f1,f2,f3,f4⟩:=Nw a[i].When hnc (q+9) (by omega) (by omega)
   have w1:aj (q+1)=q+1:=eC (by omega) (by omega)
   have w2:aj (q+1+1)=q+2:=by rw[eC (by omega) (by omega)];omega
   have w3:aj (q+2+1)=q+3:=by rw[eC (by omega) (by omega)];omega
   have w4:aj (q+3+1)=q+4:=by rw[eC (by omega) (by omega)];omega
   have w5:aj (q+4+1)=q+5:=by rw[eC (by omega) (by omega)];omega
   have w6:aj (q+5+1)=q+6:=by rw[eC (by omega) (by omega)];omega
   have w7:aj (q+6+1)=q+7:=by rw[eC (by omega) (by omega)];omega
   have w8:aj (q+7+1)=q+8:=by rw[eC (by omega) (by omega)];omega
   have w9:aj (q+8+1)=q+9:=by rw[eC (by omega) (by omega)];omega
   have wa:aj (k'+1)=k'+1:=eC (by omega) (by omega)
   have wb:aj (k'+1+1)=k'+2:=by rw[eC (by omega) (by omega)];omega
   refine .inl ⟨(k'+2,xs.set i ⟨pi q,q+1,q+2,pi (q+3),q+4,q+5,⟨q+6,pi (q+7),q+8,p'⟩,k',pi (k'+1)⟩),⟨by simp only;omega,by simp only;omega,by simpa using j3,fun j hj=>?_⟩,?_⟩
   ·rw[List.getElem?_set_ne (by omega)];exact j4 j (by omega)
   ·show mB a k (q,(i:Int),xs)=_
    rw[Bq,kz]
    simp only[bp,decide_eq_true hi',cond_true,gU,bE,mt,he,Option.bind_some,w1,w2,w3,w4,w5,w6,w7,w8,w9,kn (show q≤4611686018427387904 by omega),kn (show q+3≤4611686018427387904 by omega),kn (show q+7≤4611686018427387904 by omega),List.getElem?_set_self,List.length_set,hi',decide_true,List.set_set,f1,f2,Nat.beq_refl,wa,wb,kn (show k'+1≤4611686018427387904 by omega),b9 (show i<9223372036854775807 by omega)])
  (by
   rintro⟨q,xs⟩ ⟨j1,j2,j3,j4⟩
   simp only at j1 j2 j3 j4
   refine⟨_,⟨q,xs,rfl,j3,j1,by omega⟩,?_⟩
   show mB a k (q,(a.length:Int),xs)=_
   rw[Bq,kz]
   simp only[bp,decide_eq_false (show ¬a.length<xs.length by omega),cond_false])
  ⟨Int.le_refl k,by omega,rfl,fun _ _=>rfl⟩
 refine⟨k',a',?_,e1,e2,e3⟩
 rw[show mB a k (k,0,a)=some (.inr (k',a')) from h2,fx]
 simp only[e1,Nat.beq_refl,cond_true]
theorem GN (c:Contract)(hc:fS c){k:Int}(h0:0≤k)(hM:k≤1000000):∃k',zo c k=some k'∧k≤k'∧k'≤5000000000000:=by
 unfold zo
 obtain⟨k1,a1,e1,l1,b1,b2⟩:=JL c.Parties hc.1.1 h0 (by omega)
 obtain⟨k2,a2,e2,l2,b3,b4⟩:=JK c.Clauses hc.2 (k:=k1) (by omega) (by omega)
 refine⟨k2,?_,by omega,?_⟩
 ·rw[e1,Option.bind_some]
  simp only[l1,Nat.beq_refl,cond_true,e2,Option.bind_some,l2]
 ·omega
def gV (p:Nat→Bool):Nat→List Int
 | 0=>[]
 | n+1=>gV p n++(bif p n then [(n:Int)] else [])
theorem wD (p:Nat→Bool):∀n,(gV p n).length≤n
 | 0=>Nat.le_refl _
 | n+1=>by
  have:=wD p n
  rw[gV,List.length_append]
  cases p n<;>simp<;>omega
theorem Tj {ρ:Type}{L:Nat→List Int→Option (ρ⊕List Int)}(n:Nat)(hn:n≤1048576)(p:Nat→Bool)(hS:∀i out,i<n→out.length≤i→L i out=bif p i then ((fA 8 out [(i:Int)]).bind fun a=>L (i+1) a) else L (i+1) out)(hE:∀out,L n out=some (.inr out)):L 0 []=some (.inr (gV p n)):=by
 obtain⟨y,h1,h2⟩:=ka (L:=L) n (fun i s=>s=gV p i) (fun y=>y=.inr (gV p n)) (s:=[])
  (by
   rintro i s hi rfl
   have hl:=wD p i
   refine .inl ⟨gV p (i+1),rfl,?_⟩
   rw[hS i _ hi hl,gV]
   cases p i with
   | true=>rw[cond_true,jM (by omega) (by omega)];rfl
   | false=>rw[cond_false,cond_false,List.append_nil])
  (by rintro s rfl;exact⟨_,rfl,hE _⟩) rfl
 rw[h2,h1]
theorem xE {c:Contract}(h:jo c=true){e:Clause}(he:e∈c.Clauses):d5 e.When=true∧aI e.When≤15:=by
 obtain⟨i,hi,rfl⟩:=List.mem_iff_getElem.1 he
 have h1:=wj ((jp h).2.2.2 _ _ (List.getElem?_eq_getElem hi)).2
 simp only[oK,Bool.and_eq_true,decide_eq_true_eq] at h1
 exact h1
noncomputable def rL (a b:Condition):Bool:=(rC a b).getD false
noncomputable def pQ (a b:Condition):Bool:=(tK a b).getD false
theorem JM {a b:Condition}(ha:d5 a=true∧aI a≤15)(hb:d5 b=true∧aI b≤15):rC a b=some (rL a b)∧(rL a b=true→tK a b=some (pQ a b))∧DL a b true=some (bif rL a b then (pQ a b,true) else (false,false)):=by
 obtain⟨few,r,h1,h2,h3⟩:=Vs a b ha.1 hb.1 (by omega) (by omega)
 have hf:rL a b=few:=by unfold rL;rw[h1];rfl
 rw[hf]
 cases few with
 | false=>exact⟨h1,fun h=>by simp at h,h2⟩
 | true=>
  have hm:pQ a b=r:=by unfold pQ;rw[h3 rfl];rfl
  rw[hm]
  exact⟨h1,fun _=>h3 rfl,h2⟩
def iT (c:Contract)(x:Clause)(kind:Int)(i:Nat):Bool:=match c.Clauses[i]? with
 | some e=>(e.Kind==kind)&&((e.Party==x.Party)&&(e.Action==x.Action))
 | none=>false
noncomputable def Fo (c:Contract)(x:Clause)(i:Nat):Bool:=match c.Clauses[i]? with
 | some e=>rL x.When e.When
 | none=>true
noncomputable def xp (c:Contract)(x:Clause)(i:Nat):Bool:=match c.Clauses[i]? with
 | some e=>pQ x.When e.When
 | none=>false
theorem Gs (p:Nat→Bool):∀{n:Nat} {x:Int},x∈gV p n↔∃i,i<n∧p i=true∧x=(i:Int)
 | 0,x=>by simp[gV]
 | n+1,x=>by
  rw[gV,List.mem_append,Gs p]
  constructor
  ·rintro (⟨i,h1,h2,h3⟩ | h)
   ·exact⟨i,by omega,h2,h3⟩
   ·cases hp:p n with
    | true=>rw[hp,cond_true,List.mem_singleton] at h;exact⟨n,by omega,hp,h⟩
    | false=>rw[hp] at h;simp at h
  ·rintro⟨i,h1,h2,h3⟩
   rcases Nat.lt_or_eq_of_le (Nat.le_of_lt_succ h1) with h4 | rfl
   ·exact .inl ⟨i,h4,h2,h3⟩
   ·exact .inr (by rw[h2,cond_true,h3];simp)
theorem Je (a b:Int):(a==b)=(b==a):=by
 by_cases h:a=b
 ·rw[h]
 ·rw[beq_eq_false_iff_ne.2 h,beq_eq_false_iff_ne.2 (Ne.symm h)]
theorem Jf (a b:ac):(a==b)=(b==a):=by
 by_cases h:a=b
 ·rw[h]
 ·rw[beq_eq_false_iff_ne.2 h,beq_eq_false_iff_ne.2 (Ne.symm h)]
theorem Tc (c:Contract)(h:jo c=true)(x:Clause)(kind:Int):IZ c x kind=some (gV (iT c x kind) c.Clauses.length):=by
 have h12:=(jp h).2.1
 have e2:=Tj (L:=fun i out=>oZ c (c,kind,x) ((i:Int),out)) c.Clauses.length (by omega) (iT c x kind)
  (by
   intro i out hi ho
   have he:=List.getElem?_eq_getElem hi
   show oZ c (c,kind,x) ((i:Int),out)=_
   rw[FW,me]
   unfold LK
   simp only[bp,decide_eq_true hi,cond_true,bE,he,Option.bind_some,gU,iT,b9 (show i<9223372036854775807 by omega)]
   cases c.Clauses[i].Kind==kind<;>cases c.Clauses[i].Party==x.Party<;>cases c.Clauses[i].Action==x.Action<;>simp[ca]<;>cases fA 8 out [(i:Int)]<;>rfl)
  (by
   intro out
   show oZ c (c,kind,x) ((c.Clauses.length:Int),out)=_
   rw[FW,me]
   simp only[bp,decide_eq_false (Nat.lt_irrefl _),cond_false])
 unfold IZ LJ
 rw[show oZ c (c,kind,x) (0,[])=_ from e2]
 rfl
theorem SU (x:ArrInt2):uX x x=some true:=by
 unfold uX
 rw[tE,jC]
 simp only[show decide ((0:Int)<2)=true from rfl,show ((0:Int)==0)=true from rfl,bne_self_eq_false,cond_true,cond_false,show aj (0+1)=1 from rfl]
 rw[tE,jC]
 simp only[show decide ((1:Int)<2)=true from rfl,show ((1:Int)==0)=false from rfl,show ((1:Int)==1)=true from rfl,bne_self_eq_false,cond_true,cond_false,show aj (1+1)=2 from rfl]
 rw[tE,jC]
 rfl
theorem Qj (a:List ArrInt2)(ha:a.length≤1048576):tF a a=some true:=by
 unfold tF
 rw[bne_self_eq_false,cond_false,xj (L:=si a a) (a:=a) (p:=uX) (r:=false) (fun x _=>SU x) (fun x=>by rw[Mk,mz]) (by omega)]
 rfl
noncomputable def nD (k:Int)(_:ArrInt2):Int×ArrInt2:=(k+2,⟨k,k+1⟩)
theorem K9 (a:List ArrInt2)(ha:a.length≤1048576){k:Int}(h0:0≤k)(hM:(dG nD k a).1≤4611686018427387904):zq a k=some (dG nD k a):=by
 unfold zq
 rw[JJ (L:=ss a k) (g:=nD) (M:=4611686018427387904) (fun k x=>by show k≤k+2;omega) ?_ ?_ h0 hM (by omega)]
 ·show (bif Nat.beq (dG nD k a).2.length a.length then some ((dG nD k a).1,(dG nD k a).2) else none)=_
  rw[ph,Nat.beq_refl]
  rfl
 ·intro q i xs e h0 h1 hi he
  have h1':q+2≤4611686018427387904:=h1
  obtain⟨hi',_⟩:=List.getElem?_eq_some_iff.1 he
  have w1:aj (q+1)=q+1:=eC (by omega) (by omega)
  have w2:aj (q+1+1)=q+2:=by rw[show q+1+1=q+2 by omega];exact eC (by omega) (by omega)
  have hb:su a k (q,(i:Int),xs) (q,0,xs)=some (.inr (q+2,xs.set i ⟨q,q+1⟩)):=by
   rw[tH,jF]
   simp only[show decide ((0:Int)<2)=true from rfl,show ((0:Int)==0)=true from rfl,cond_true,cond_false,show aj (0+1)=1 from rfl,bE,he,Option.bind_some,mt,w1]
   rw[tH,jF]
   simp only[show decide ((1:Int)<2)=true from rfl,show ((1:Int)==0)=false from rfl,show ((1:Int)==1)=true from rfl,cond_true,cond_false,show aj (1+1)=2 from rfl,bE,List.getElem?_set_self,List.length_set,hi',Option.bind_some,mt,List.set_set,w2]
   rw[tH,jF]
   rfl
  rw[Bx,kB,bp,decide_eq_true hi',cond_true,hb]
  simp only[gq,b9 (show i<9223372036854775807 by omega)]
  rfl
 ·intro k i xs hi
  rw[Bx,kB,bp,decide_eq_false (show ¬i<xs.length by omega),cond_false]
theorem K7 (a:List ArrInt2)(ha:a.length≤1048576){k:Int}(h0:0≤k)(hM:(dG nD k a).1≤4611686018427387904):uY (dG nD k a).2 k=some (dG nD k a).1:=by
 unfold uY
 rw[S3 (H:=sk (dG nD k a).2 k) (g:=nD) (M:=4611686018427387904) (a:=(dG nD k a).2) (xs:=a) (fun k x=>by show k≤k+2;omega) ?_ ?_ h0 hM (by omega) rfl]
 ·rfl
 ·intro q i e h0 h1 hi he
  have h1':q+2≤4611686018427387904:=h1
  obtain⟨hi',_⟩:=List.getElem?_eq_some_iff.1 he
  have he2:(dG nD k a).2[i]?=some ⟨q,q+1⟩:=he
  have w1:aj (q+1)=q+1:=eC (by omega) (by omega)
  have w2:aj (q+1+1)=q+2:=by rw[show q+1+1=q+2 by omega];exact eC (by omega) (by omega)
  have hb:sn (dG nD k a).2 k (q,(i:Int)) (q,0)=some (.inr (q+2)):=by
   rw[tG,jD]
   simp only[show decide ((0:Int)<2)=true from rfl,show ((0:Int)==0)=true from rfl,cond_true,cond_false,show aj (0+1)=1 from rfl,bE,he2,Option.bind_some,bne_self_eq_false,w1]
   rw[tG,jD]
   simp only[show decide ((1:Int)<2)=true from rfl,show ((1:Int)==0)=false from rfl,show ((1:Int)==1)=true from rfl,cond_true,cond_false,show aj (1+1)=2 from rfl,bE,he2,Option.bind_some,bne_self_eq_false,w2]
   rw[tG,jD]
   rfl
  rw[Bn,ky,bp,decide_eq_true hi',cond_true,hb]
  simp only[gq,b9 (show i<9223372036854775807 by omega)]
  rfl
 ·intro k' i hi
  rw[Bn,ky,bp,decide_eq_false (by omega),cond_false]
theorem Te (a:List ArrInt2)(ha:a.length≤1048576):1≤(dG nD 1 a).1∧(dG nD 1 a).1≤4611686018427387904:=by
 have h1:=nI (g:=nD) (fun k x=>by show k≤k+2;omega) (xs:=a) (k:=1)
 have h2:=AQ (g:=nD) (c:=2) (fun k x=>by show k+2≤k+(2:Nat);omega) (xs:=a) (k:=1)
 omega
def lU (p:Nat→Bool):Nat→Nat→List Int
 | _,0=>[]
 | k,m+1=>bif p k then (k:Int)::lU p (k+1) m else lU p (k+1) m
theorem Gr (p:Nat→Bool):∀m k,gV p k++lU p k m=gV p (k+m)
 | 0,k=>by simp[lU]
 | m+1,k=>by
  have ih:=Gr p m (k+1)
  rw[show k+(m+1)=k+1+m by omega,←ih,lU,gV]
  cases p k<;>simp
noncomputable def D3 (c:Contract)(x:Clause)(i:Int):List Int→List ArrInt2→Option (List ArrInt2)
 | [],out=>some out
 | z::zs,out=>bif Fo c x z.toNat then D3 c x i zs (bif xp c x z.toNat then out++[⟨i,z⟩] else out) else none
theorem LN {c:Contract}{x:Clause}{i:Int}:∀{P:List Int} {out r:List ArrInt2},D3 c x i P out=some r→r.length≤out.length+P.length
 | [],out,r,h=>by cases h;simp
 | z::zs,out,r,h=>by
  rw[D3] at h
  cases hf:Fo c x z.toNat with
  | false=>rw[hf] at h;cases h
  | true=>
   rw[hf,cond_true] at h
   have:=LN h
   cases hm:xp c x z.toNat with
   | false=>rw[hm] at this;simp at this ⊢;omega
   | true=>rw[hm] at this;simp at this ⊢;omega
noncomputable def W1 (o:Option (List ArrInt2)):((List ArrInt2)×Bool)⊕List ArrInt2:=match o with
 | none=>.inl ([],false)
 | some l=>.inr l
theorem GH (c:Contract)(h:jo c=true)(i:Nat)(hi:i<c.Clauses.length)(hk:(c.Clauses[i].Kind==1)=false)(o:List ArrInt2):∀(m k:Nat) (out:List ArrInt2),k+m=c.Clauses.length→lu c ((i:Int),o) ((k:Int),out)=some (.inr out)
 | 0,k,out,hm=>by
  rw[pH,iI]
  simp only[bp,decide_eq_false (show ¬k<c.Clauses.length by omega),cond_false]
 | m+1,k,out,hm=>by
  have h12:=(jp h).2.1
  have hk1:k<c.Clauses.length:=by omega
  have ih:=GH c h i hi hk o m (k+1) out (by omega)
  rw[pH,iI]
  simp only[bp,decide_eq_true hk1,cond_true,bE,List.getElem?_eq_getElem hk1,List.getElem?_eq_getElem hi,Option.bind_some,bne,hk,Bool.not_false,gq,b9 (show k<9223372036854775807 by omega)]
  exact ih
theorem LP (c:Contract)(h:jo c=true)(i:Nat)(hi:i<c.Clauses.length)(hk:(c.Clauses[i].Kind==1)=true)(o:List ArrInt2):∀(m k:Nat) (out:List ArrInt2),k+m=c.Clauses.length→out.length≤1000000+k→lu c ((i:Int),o) ((k:Int),out)=some (W1 (D3 c c.Clauses[i] (i:Int) (lU (iT c c.Clauses[i] 2) k m) out))
 | 0,k,out,hm,ho=>by
  rw[pH,iI]
  simp only[bp,decide_eq_false (show ¬k<c.Clauses.length by omega),cond_false]
  rfl
 | m+1,k,out,hm,ho=>by
  have h12:=(jp h).2.1
  have hk1:k<c.Clauses.length:=by omega
  have he:=List.getElem?_eq_getElem hk1
  have ih:=fun out' (ho':out'.length≤1000000+(k+1))=>LP c h i hi hk o m (k+1) out' (by omega) ho'
  obtain⟨m1,m2,m3⟩:=JM (xE h (List.getElem_mem hi)) (xE h (List.getElem_mem hk1))
  rw[pH,iI]
  simp only[bp,decide_eq_true hk1,cond_true,bE,he,List.getElem?_eq_getElem hi,Option.bind_some,bne,hk,Bool.not_true,cond_false,ER,gU,b9 (show k<9223372036854775807 by omega),m1]
  rw[lU,Je c.Clauses[i].Party,Jf c.Clauses[i].Action]
  have hl:iT c c.Clauses[i] 2 k=((c.Clauses[k].Kind==2)&&((c.Clauses[k].Party==c.Clauses[i].Party)&&(c.Clauses[k].Action==c.Clauses[i].Action))):=by simp only[iT,he]
  have hf:Fo c c.Clauses[i] k=rL c.Clauses[i].When c.Clauses[k].When:=by simp only[Fo,he]
  have hmt:xp c c.Clauses[i] k=pQ c.Clauses[i].When c.Clauses[k].When:=by simp only[xp,he]
  have hno:iT c c.Clauses[i] 2 k=false→lu c ((i:Int),o) (((k+1:Nat):Int),out)=some (W1 (D3 c c.Clauses[i] (i:Int) (bif iT c c.Clauses[i] 2 k then (k:Int)::lU (iT c c.Clauses[i] 2) (k+1) m else lU (iT c c.Clauses[i] 2) (k+1) m) out)):=by
   intro hl0
   rw[hl0,cond_false]
   exact ih out (by omega)
  cases hk2:c.Clauses[k].Kind==2 with
  | false=>exact hno (by rw[hl,hk2];rfl)
  | true=>
   cases hp:c.Clauses[k].Party==c.Clauses[i].Party with
   | false=>exact hno (by rw[hl,hk2,hp];rfl)
   | true=>
    cases ha:c.Clauses[k].Action==c.Clauses[i].Action with
    | false=>exact hno (by rw[hl,hk2,hp,ha];rfl)
    | true=>
     rw[hl,hk2,hp,ha]
     simp only[Bool.and_self,cond_true,D3,Int.toNat_natCast,hf,hmt,Bool.not_true,Bool.not_false,gq,cond_false]
     cases hfew:rL c.Clauses[i].When c.Clauses[k].When with
     | false=>rfl
     | true=>
      rw[Bool.not_true,cond_false,m2 hfew,Option.bind_some]
      cases hmeet:pQ c.Clauses[i].When c.Clauses[k].When with
      | false=>exact ih out (by omega)
      | true=>
       have hap:=jM (b:=16) (xs:=out) (y:=ArrInt2.mk (i:Int) (k:Int)) (by omega) (by omega)
       simp only[cond_true,hap,Option.bind_some,gq]
       exact ih _ (by simp;omega)
theorem LO (c:Contract)(h:jo c=true)(i:Nat)(hi:i<c.Clauses.length)(o:List ArrInt2)(P:List Int)(hP:∀z∈P,∃k:Nat,k<c.Clauses.length∧z=(k:Int))(hl:P.length≤1000000):∀(m j:Nat) (out:List ArrInt2),j+m=P.length→out.length≤1000000+j→sh c P c.Clauses[i] ((i:Int),o) ((j:Int),out)=some (W1 (D3 c c.Clauses[i] (i:Int) (P.drop j) out))
 | 0,j,out,hm,ho=>by
  rw[FM,ma,List.drop_eq_nil_of_le (by omega)]
  simp only[bp,decide_eq_false (show ¬j<P.length by omega),cond_false]
  rfl
 | m+1,j,out,hm,ho=>by
  have hj:j<P.length:=by omega
  have ih:=fun out' (ho':out'.length≤1000000+(j+1))=>LO c h i hi o P hP hl m (j+1) out' (by omega) ho'
  obtain⟨k,hk,hz⟩:=hP _ (List.getElem_mem hj)
  have hek:=List.getElem?_eq_getElem hk
  obtain⟨m1,m2,m3⟩:=JM (xE h (List.getElem_mem hi)) (xE h (List.getElem_mem hk))
  have hf:Fo c c.Clauses[i] k=rL c.Clauses[i].When c.Clauses[k].When:=by simp only[Fo,hek]
  have hmt:xp c c.Clauses[i] k=pQ c.Clauses[i].When c.Clauses[k].When:=by simp only[xp,hek]
  rw[FM,ma,List.drop_eq_getElem_cons hj]
  simp only[bp,decide_eq_true hj,cond_true,bE,List.getElem?_eq_getElem hj,Option.bind_some,b9 (show j<9223372036854775807 by omega),D3]
  rw[hz,bE,hek,Option.bind_some,m3,Option.bind_some,Int.toNat_natCast,hf,hmt]
  cases hfew:rL c.Clauses[i].When c.Clauses[k].When with
  | false=>rfl
  | true=>
   simp only[cond_true,Bool.not_true,cond_false]
   cases hmeet:pQ c.Clauses[i].When c.Clauses[k].When with
   | false=>exact ih out (by omega)
   | true=>
    have hap:=jM (b:=16) (xs:=out) (y:=ArrInt2.mk (i:Int) (k:Int)) (by omega) (by omega)
    simp only[cond_true,hap,Option.bind_some,gq]
    exact ih _ (by simp;omega)
theorem Ji (c:Contract)(h:jo c=true):∀(k i:Nat) (out:List ArrInt2),i+k=c.Clauses.length→out.length≤12*i→∃y:((List ArrInt2)×Bool)⊕List ArrInt2,qb c ((i:Int),out)=some y∧sf c ((i:Int),out)=some y∧(match y with | .inl r=>r.1=[] | .inr r=>r.length≤144)
 | 0,i,out,hi,ho=>by
  have h12:=(jp h).2.1
  refine⟨.inr out,?_,?_,by simp only;omega⟩
  ·rw[Cg,kI]
   simp only[bp,decide_eq_false (show ¬i<c.Clauses.length by omega),cond_false]
  ·rw[FL,l9]
   simp only[bp,decide_eq_false (show ¬i<c.Clauses.length by omega),cond_false]
 | k+1,i,out,hi,ho=>by
  have h12:=(jp h).2.1
  have hi1:i<c.Clauses.length:=by omega
  have he:=List.getElem?_eq_getElem hi1
  have ih:=fun out' (ho':out'.length≤12*(i+1))=>Ji c h k (i+1) out' (by omega) ho'
  have hpl:=wD (iT c c.Clauses[i] 2) c.Clauses.length
  rw[Cg,kI,FL,l9]
  simp only[bp,decide_eq_true hi1,cond_true,bE,he,Option.bind_some,b9 (show i<9223372036854775807 by omega)]
  cases hk:c.Clauses[i].Kind==1 with
  | false=>
   rw[show lu c ((i:Int),out) (0,out)=_ from GH c h i hi1 hk out c.Clauses.length 0 out (by omega)]
   simp only[bne,hk,Bool.not_false,cond_true,gq]
   exact ih out (by omega)
  | true=>
   rw[show lu c ((i:Int),out) (0,out)=_ from LP c h i hi1 hk out c.Clauses.length 0 out (by omega) (by omega)]
   simp only[bne,hk,Bool.not_true,cond_false,Tc c h,Option.bind_some]
   rw[show sh c (gV (iT c c.Clauses[i] 2) c.Clauses.length) c.Clauses[i] ((i:Int),out) (0,out)=_ from LO c h i hi1 out _ (fun z hz=>by obtain⟨k,k1,_,k3⟩:=(Gs _).1 hz;exact⟨k,k1,k3⟩) (by omega) (gV (iT c c.Clauses[i] 2) c.Clauses.length).length 0 out (by omega) (by omega)]
   have hpp:lU (iT c c.Clauses[i] 2) 0 c.Clauses.length=gV (iT c c.Clauses[i] 2) c.Clauses.length:=by
    have:=Gr (iT c c.Clauses[i] 2) c.Clauses.length 0
    simpa[gV] using this
   rw[hpp,List.drop_zero]
   cases hr:D3 c c.Clauses[i] (i:Int) (gV (iT c c.Clauses[i] 2) c.Clauses.length) out with
   | none=>exact⟨.inl ([],false),rfl,rfl,rfl⟩
   | some r=>
    have:=LN hr
    exact ih r (by omega)
theorem Qe (c:Contract)(hs:fS c):∃r,zT c=some r∧FK c=some r∧r.1.length≤1048576:=by
 unfold zT FK
 rw[GQ c hs,GL c hs]
 cases h:jo c with
 | false=>exact⟨_,rfl,rfl,by simp⟩
 | true=>
  obtain⟨y,y1,y2,y3⟩:=Ji c h c.Clauses.length 0 [] (by omega) (by simp)
  simp only[Option.bind_some,Bool.not_true,cond_false]
  rw[show qb c (0,[])=_ from y1,show sf c (0,[])=_ from y2]
  cases y with
  | inl r=>exact⟨r,rfl,rfl,by rw[show r.1=[] from y3];simp⟩
  | inr r=>exact⟨_,rfl,rfl,by have:r.length≤144:=y3;show r.length≤1048576;omega⟩
theorem py (c:Contract)(hc:RH c):eb c=some true:=by
 unfold eb
 obtain⟨r1,e1,q1⟩:=Ll c hc (l:=1048576) (by decide) (by decide)
 rw[e1,Option.bind_some]
 rcases q1 with q1 | ⟨q1,p1,s1⟩
 ·rw[decide_eq_true q1,cond_true]
 rw[decide_eq_false (by omega),cond_false]
 obtain⟨v,g1,g2,s3⟩:=Qe c s1
 obtain⟨km,m1,m2,m3⟩:=GN c s1 (k:=1) (by decide) (by decide)
 obtain⟨m4,m5⟩:=Te v.1 s3
 simp only[Lm c s1,Option.bind_some,g1,g2,K4 c s1,Qj v.1 s3,gU,bne_self_eq_false,beq_self_eq_true,Bool.not_true,cond_false,m1,K9 v.1 s3 (by decide) m5,K7 v.1 s3 (by decide) m5,ph,Nat.beq_refl,cond_true,decide_eq_false (show ¬km<0 by omega),decide_eq_false (show ¬(dG nD 1 v.1).1<0 by omega),bn]
end Go.Ln
