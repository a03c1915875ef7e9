/-
  The plain law.
-/
import Derived.Test.YtpbdjajabmdbcaaGreatDoorFnExactMovesOfLib
import Derived.Sort.AssemblyPlain
import Derived.Sort.LotD4
import Derived.Sort.LotD5
set_option linter.unusedVariables false
set_option linter.unusedSimpArgs false
set_option maxRecDepth 100000
namespace Go.Ln
open Go
theorem oQ {α:Type}{b:Nat}{xs:List α}{y:α}(h:(xs.length+1)*b≤1099511627776)(h2:xs.length+1≤1099511627776):iy b xs [y]=some (xs++[y]):=by
 unfold iy
 rw[if_pos]
 simp only[List.length_cons,List.length_nil,lH,Nat.zero_add]
 omega
namespace StrL
theorem lt_irrefl:∀(a:ae),Op.bytesLess a a=false
 | []=>rfl
 | x::xs=>by
  have h:¬x<x:=by simp
  simp[Op.bytesLess,h,lt_irrefl xs]
theorem lt_trans:∀(a b c:ae),Op.bytesLess a b=true→Op.bytesLess b c=true→Op.bytesLess a c=true
 | _,[],_,h,_=>by simp[Op.bytesLess] at h
 | _,_::_,[],_,h=>by simp[Op.bytesLess] at h
 | [],_::_,_::_,_,_=>rfl
 | x::xs,y::ys,z::zs,h1,h2=>by
  simp only[Op.bytesLess,Bool.or_eq_true,decide_eq_true_eq,Bool.and_eq_true,beq_iff_eq] at h1 h2 ⊢
  rcases h1 with h1 | ⟨h1,h3⟩<;>rcases h2 with h2 | ⟨h2,h4⟩
  ·exact .inl (UInt8.lt_trans h1 h2)
  ·subst h2;exact .inl h1
  ·subst h1;exact .inl h2
  ·subst h1;subst h2;exact .inr ⟨rfl,lt_trans xs ys zs h3 h4⟩
def Lt (a b:ae):Prop:=Op.bytesLess a b=true
theorem tri (a b:ae):Lt a b∨a=b∨Lt b a:=by
 have:=uW a b
 unfold Lt
 cases h:Op.bytesLess a b
 ·cases h2:a==b
  ·rw[h,h2] at this;exact .inr (.inr this.symm)
  ·exact .inr (.inl (by simpa using h2))
 ·exact .inl rfl
theorem Lt.irrefl {a:ae}(h:Lt a a):False:=by unfold Lt at h;rw[lt_irrefl] at h;cases h
theorem Lt.trans {a b c:ae}(h:Lt a b)(h2:Lt b c):Lt a c:=lt_trans a b c h h2
theorem Lt.asymm {a b:ae}(h:Lt a b)(h2:Lt b a):False:=(h.trans h2).irrefl
def Le (a b:ae):Prop:=¬Lt b a
theorem Le.lt_or {a b:ae}(h:Le a b):Lt a b∨a=b:=by
 rcases tri a b with h1 | h1 | h1
 ·exact .inl h1
 ·exact .inr h1
 ·exact (h h1).elim
theorem Le.trans {a b c:ae}(h:Le a b)(h2:Le b c):Le a c:=by
 intro h3
 rcases h.lt_or with h4 | rfl
 ·rcases h2.lt_or with h5 | rfl
  ·exact (h4.trans h5).asymm h3
  ·exact h h3
 ·exact h2 h3
theorem Lt.le {a b:ae}(h:Lt a b):Le a b:=fun h2=>h.asymm h2
theorem Le.le_lt {a b c:ae}(h:Le a b)(h2:Lt b c):Lt a c:=by
 rcases h.lt_or with h3 | rfl
 ·exact h3.trans h2
 ·exact h2
end StrL
namespace StrL
def d3 (a:List ae)(j:Nat):Bool:=match j with
 | 0=>true
 | j+1=>match a[j]?,a[j+1]? with
  | some x,some y=>y != x
  | _,_=>true
def dd (a:List ae):List ae:=iM (d3 a) a a.length
theorem oX {a:List ae}{k:Nat}(h:∀j x y,j+1<k→a[j]?=some x→a[j+1]?=some y→y≠x)(hn:k≤a.length):iM (d3 a) a k=a.take k:=by
 have e:∀n,n≤k→iM (d3 a) a n=a.take n:=by
  intro n
  induction n with
  | zero=>intro _;rfl
  | succ n ih=>
   intro hk
   have h1:n<a.length:=by omega
   have hx:=List.getElem?_eq_getElem h1
   rw[rc ?_ hx,ih (by omega),List.take_add_one,hx]
   ·rfl
   ·cases n with
    | zero=>rfl
    | succ n=>
     have h2:=List.getElem?_eq_getElem (show n<a.length by omega)
     simp only[d3,h2,hx]
     simpa using h n _ _ (by omega) h2 hx
 exact e k (Nat.le_refl k)
theorem tW {s z:List ae}{x j:Nat}(h1:x≤j)(h2:j<s.length):nX z (0+Int.toNat (x:Int)) (Int.toNat (len s) - Int.toNat (x:Int)) ((j:Int) - (x:Int))=z[j]?:=by
 unfold nX
 simp only[len,Int.toNat_natCast,Nat.zero_add]
 rw[if_pos (by omega),show x+((j:Int) - (x:Int)).toNat=j by omega]
theorem qU (s:List ae)(x:Nat)(hl:s.length≤1048576)(hx:x<s.length)(h0:iM (d3 s) s (x+1)=s.take x):∃(i:Nat) (z:List ae),kz s (x:Int) ((x:Int),1,s)=some (.inr ((i:Int),z))∧z.length=s.length∧i≤z.length∧z.take i=dd s:=by
 have hD:=NB (L:=fun q:Int×Int×List ae=>kz s (x:Int) (q.1,q.2.1 - (x:Int),q.2.2)) (keep:=d3 s) (a:=s) (i0:=x)
  (by
   intro i j z y hz hi hij hy hy2 hy3
   obtain⟨h1,_⟩:=List.getElem?_eq_some_iff.1 hy
   have h2:=List.getElem?_eq_getElem (show j - 1<s.length by omega)
   have h4:=List.getElem?_eq_getElem (show i<z.length by omega)
   show kz s (x:Int) ((i:Int),(j:Int) - (x:Int),z)=bif d3 s j then kz s (x:Int) (((i+1:Nat):Int),((j+1:Nat):Int) - (x:Int),z.set i y) else kz s (x:Int) ((i:Int),((j+1:Nat):Int) - (x:Int),z)
   have w1:ac ((j:Int) - (x:Int) - 1)=((j - 1:Nat):Int) - (x:Int):=by rw[dV (by omega) (by omega)];omega
   have w2:ac ((j:Int) - (x:Int)+1)=((j+1:Nat):Int) - (x:Int):=by rw[dV (by omega) (by omega)];omega
   have c1:decide ((j:Int) - (x:Int)<(((Int.toNat (len s) - Int.toNat (x:Int)):Nat):Int))=true:=decide_eq_true (by simp only[len,Int.toNat_natCast];omega)
   rw[C5,la]
   simp only[c1,cond_true,w1,w2,tW (show x≤j by omega) h1,tW (show x≤j - 1 by omega) (show j - 1<s.length by omega),hy2,hy3,h2,Option.bind_some,b8,kj,h4,cV (show i<9223372036854775807 by omega)]
   have hk:d3 s j=(y != s[j - 1]):=by
    cases j with
    | zero=>omega
    | succ j=>
     simp only[d3,hy,show j+1 - 1=j by omega] at h2 ⊢
     simp only[h2]
   rw[hk]
   show _=bif !(y==s[j - 1]) then _ else _
   cases y==s[j - 1]<;>rfl)
  (by
   intro i j z hz hi hij hj
   show kz s (x:Int) ((i:Int),(j:Int) - (x:Int),z)=_
   have c1:decide ((j:Int) - (x:Int)<(((Int.toNat (len s) - Int.toNat (x:Int)):Nat):Int))=false:=decide_eq_false (by simp only[len,Int.toNat_natCast];omega)
   rw[C5,la]
   simp only[c1,cond_false])
  h0 hx
 simp only[show ((x+1:Nat):Int) - (x:Int)=1 by omega] at hD
 exact hD
theorem lC (s:List ae)(hl:s.length≤1048576):∀(n k:Nat),k+n=s.length→1≤k→(∀j x y,j+1<k→s[j]?=some x→s[j+1]?=some y→y≠x)→∃y,qq s (k:Int)=some y∧(y=.inl (dd s)∨y=.inr (dd s))
 | 0,k,hk,h1,h=>by
  refine⟨.inr s,?_,.inr ?_⟩
  ·rw[C4,kZ,bX,decide_eq_false (by omega),cond_false]
  ·unfold dd
   rw[oX (k:=s.length) (fun j x y hj=>h j x y (by omega)) (Nat.le_refl _),List.take_length]
 | n+1,k,hk,h1,h=>by
  have h2:k<s.length:=by omega
  have e1:=List.getElem?_eq_getElem h2
  have e2:=List.getElem?_eq_getElem (show k - 1<s.length by omega)
  have w1:ac ((k:Int) - 1)=((k - 1:Nat):Int):=by rw[dV (by omega) (by omega)];omega
  rw[C4,kZ,bX,decide_eq_true h2,cond_true,w1,b8,b8,e1,e2,Option.bind_some,Option.bind_some,cV (by omega)]
  by_cases hq:s[k]=s[k - 1]
  ·rw[beq_iff_eq.2 hq,cond_true]
   have e3:gb s.length (k:Int) (len s)=some ():=by unfold gb;rw[if_pos (by simp only[len];omega)]
   have hno:d3 s k=false:=by
    cases k with
    | zero=>omega
    | succ k=>
     simp only[show k+1 - 1=k by omega] at e2 hq
     simp only[d3,e1,e2,hq,bne_self_eq_false]
   obtain⟨i,z,e,hz,hi,ht⟩:=qU s k hl h2 (by rw[uc hno,oX h (by omega)])
   rw[e3,Option.bind_some,e,gL]
   refine⟨.inl (dd s),?_,.inl rfl⟩
   rw[←ht]
   exact aad (c:=([]:ae)) (F:=fun p19=>some (Sum.inl p19)) hi
  ·rw[beq_eq_false_iff_ne.2 hq,cond_false]
   refine lC s hl n (k+1) (by omega) (by omega) fun j x y hj hx hy=>?_
   by_cases hj2:j+1<k
   ·exact h j x y hj2 hx hy
   ·obtain rfl:k=j+1:=by omega
    simp only[show j+1 - 1=j by omega] at e2 hq
    rw[e2] at hx
    rw[e1] at hy
    cases hx
    cases hy
    exact hq
theorem compact_val (s:List ae)(hl:s.length≤1048576):AE s=some (dd s):=by
 unfold AE
 by_cases h:len s<2
 ·rw[decide_eq_true h,cond_true]
  have h':s.length<2:=by simp only[len] at h;omega
  unfold dd
  rw[oX (k:=s.length) (fun j x y hj=>by omega) (Nat.le_refl _),List.take_length]
 ·rw[decide_eq_false h,cond_false]
  have h':¬s.length<2:=by simp only[len] at h;omega
  obtain⟨y,hy,hq⟩:=lC s hl (s.length - 1) 1 (by omega) (Nat.le_refl _) (fun j x y hj=>by omega)
  rw[show qq s 1=some y from hy]
  rcases hq with rfl | rfl<;>rfl
end StrL
namespace StrL
theorem pC {a:List ae}(hs:a.Pairwise Le):∀n,n≤a.length→(iM (d3 a) a n).Pairwise Lt∧∀x,x∈iM (d3 a) a n↔x∈a.take n
 | 0,_=>by
  have e:iM (d3 a) a 0=[]:=rfl
  rw[e]
  exact⟨List.Pairwise.nil,fun x=>by simp⟩
 | n+1,hn=>by
  obtain⟨h1,h2⟩:=pC hs n (by omega)
  have hlt:n<a.length:=by omega
  have hx:=List.getElem?_eq_getElem hlt
  have hle:∀y∈a.take n,Le y a[n]:=by
   intro y hy
   obtain⟨i,hi,rfl⟩:=List.mem_iff_getElem.1 hy
   rw[List.length_take] at hi
   rw[List.getElem_take]
   exact List.pairwise_iff_getElem.1 hs i n (by omega) hlt (by omega)
  cases hk:d3 a n with
  | true=>
   rw[rc hk hx]
   have hstrict:∀y∈a.take n,Lt y a[n]:=by
    intro y hy
    cases n with
    | zero=>simp at hy
    | succ j=>
     have h3:=List.getElem?_eq_getElem (show j<a.length by omega)
     have hne:a[j+1]≠a[j]:=by
      simp only[d3,h3,hx] at hk
      simpa using hk
     have hj:Le a[j] a[j+1]:=List.pairwise_iff_getElem.1 hs j (j+1) (by omega) hlt (by omega)
     obtain⟨i,hi,rfl⟩:=List.mem_iff_getElem.1 hy
     rw[List.length_take] at hi
     rw[List.getElem_take]
     have hlt2:Lt a[j] a[j+1]:=hj.lt_or.resolve_right fun e=>hne e.symm
     by_cases e:i=j
     ·subst e;exact hlt2
     ·have:=List.pairwise_iff_getElem.1 hs i j (by omega) (by omega) (by omega)
      exact this.le_lt hlt2
   refine⟨List.pairwise_append.2 ⟨h1,List.pairwise_singleton _ _,fun y hy z hz=>?_⟩,fun x=>?_⟩
   ·rw[List.mem_singleton] at hz
    subst hz
    exact hstrict y ((h2 y).1 hy)
   ·rw[List.take_add_one,hx,List.mem_append,List.mem_append,h2]
    rfl
  | false=>
   rw[uc hk]
   refine⟨h1,fun x=>?_⟩
   rw[h2,List.take_add_one,hx,List.mem_append]
   constructor
   ·exact .inl
   ·rintro (h | h)
    ·exact h
    ·have e:x=a[n]:=by simpa using h
     subst e
     cases n with
     | zero=>simp[d3] at hk
     | succ j=>
      have h3:=List.getElem?_eq_getElem (show j<a.length by omega)
      simp only[d3,h3,hx] at hk
      have e:a[j+1]=a[j]:=by simpa using hk
      rw[e]
      have:a[j]∈a.take (j+1):=by
       rw[List.mem_iff_getElem]
       exact⟨j,by rw[List.length_take];omega,by rw[List.getElem_take]⟩
      exact this
theorem dd_ok {a:List ae}(hs:a.Pairwise Le):(dd a).Pairwise Lt∧∀x,x∈dd a↔x∈a:=by
 have:=pC hs a.length (Nat.le_refl _)
 rw[List.take_length] at this
 exact this
theorem asc_uniq:∀{a b:List ae},a.Pairwise Lt→b.Pairwise Lt→(∀x,x∈a↔x∈b)→a=b
 | [],[],_,_,_=>rfl
 | [],y::b,_,_,h=>absurd ((h y).2 (by simp)) (by simp)
 | x::a,[],_,_,h=>absurd ((h x).1 (by simp)) (by simp)
 | x::a,y::b,ha,hb,h=>by
  rw[List.pairwise_cons] at ha hb
  have e:x=y:=by
   have h1:=(h x).1 (by simp)
   have h2:=(h y).2 (by simp)
   rw[List.mem_cons] at h1 h2
   rcases h1 with h1 | h1
   ·exact h1
   ·rcases h2 with h2 | h2
    ·exact h2.symm
    ·exact ((ha.1 y h2).asymm (hb.1 x h1)).elim
  subst e
  rw[asc_uniq ha.2 hb.2 fun z=>?_]
  constructor
  ·intro hz
   have h1:=(h z).1 (List.mem_cons_of_mem _ hz)
   rcases List.mem_cons.1 h1 with e | h1
   ·subst e;exact (ha.1 z hz).irrefl.elim
   ·exact h1
  ·intro hz
   have h1:=(h z).2 (List.mem_cons_of_mem _ hz)
   rcases List.mem_cons.1 h1 with e | h1
   ·subst e;exact (hb.1 z hz).irrefl.elim
   ·exact h1
theorem Kj {b:Nat}{xs ys:List ae}(h:(xs.length+ys.length)*b≤1099511627776)(h2:xs.length+ys.length≤1099511627776):iy b xs ys=some (xs++ys):=by
 unfold iy
 rw[if_pos]
 simp only[lH]
 omega
theorem K4 (l:List ae)(n:ae)(m:Nat)(hm:m≤l.length)(hl:l.length≤1048576)(h1:∀(j:Nat) x,j<m→l[j]?=some x→Lt x n)(h2:∀x,l[m]?=some x→¬Lt x n):∀(k j:Nat),j+k=m→tI l n (j:Int)=some (.inr (n,(m:Int),l))
 | 0,j,hj=>by
  obtain rfl:j=m:=by omega
  rw[Eb,ln,bX]
  by_cases h:j<l.length
  ·rw[decide_eq_true h,cond_true,b8,List.getElem?_eq_getElem h,Option.bind_some,gL,show Op.bytesLess l[j] n=false from by simpa[Lt] using h2 _ (List.getElem?_eq_getElem h),cond_false]
  ·rw[decide_eq_false h,cond_false,gL,cond_false]
 | k+1,j,hj=>by
  have h:j<l.length:=by omega
  rw[Eb,ln,bX,decide_eq_true h,cond_true,b8,List.getElem?_eq_getElem h,Option.bind_some,gL,show Op.bytesLess l[j] n=true from h1 j _ (by omega) (List.getElem?_eq_getElem h),cond_true,cV (by omega)]
  exact K4 l n m hm hl h1 h2 k (j+1) (by omega)
theorem put_val (l:List ae)(n:ae)(hl:l.length≤1000000)(hs:l.Pairwise Lt):∃r,wm l n=some r∧r.Pairwise Lt∧(∀x,x∈r↔x∈l∨x=n)∧r.length≤l.length+1:=by
 have key:∃m,m≤l.length∧(∀(j:Nat) x,j<m→l[j]?=some x→Lt x n)∧(∀x,l[m]?=some x→¬Lt x n):=by
  clear hl
  induction l with
  | nil=>exact⟨0,by simp,fun j x hj=>by omega,fun x hx=>by simp at hx⟩
  | cons y l ih=>
   by_cases hy:Lt y n
   ·obtain⟨m,h1,h2,h3⟩:=ih (List.pairwise_cons.1 hs).2
    refine⟨m+1,by simp;omega,fun j x hj hx=>?_,fun x hx=>h3 x (by simpa using hx)⟩
    cases j with
    | zero=>simp at hx;subst hx;exact hy
    | succ j=>exact h2 j x (by omega) (by simpa using hx)
   ·exact⟨0,by simp,fun j x hj=>by omega,fun x hx=>by simp at hx;subst hx;exact hy⟩
 obtain⟨m,hm,h1,h2⟩:=key
 have hlow:∀x∈l.take m,Lt x n:=by
  intro x hx
  obtain⟨i,hi,rfl⟩:=List.mem_iff_getElem.1 hx
  rw[List.length_take] at hi
  rw[List.getElem_take]
  exact h1 i _ (by omega) (List.getElem?_eq_getElem (by omega))
 have hloop:=K4 l n m hm (by omega) h1 h2 m 0 (by omega)
 rw[show ((0:Nat):Int)=0 from rfl] at hloop
 unfold wm
 rw[hloop]
 simp only[fW,bX]
 have s1:gb l.length 0 (m:Int)=some ():=by unfold gb;rw[if_pos (by omega)]
 have s2:gb l.length (m:Int) (len l)=some ():=by unfold gb;rw[if_pos (by simp only[len];omega)]
 have p1:gF l (0+Int.toNat 0) (Int.toNat (m:Int) - Int.toNat 0)=some (l.take m):=by
  unfold gF
  simp only[Int.toNat_zero,Int.toNat_natCast,Nat.zero_add,Nat.sub_zero,List.drop_zero]
  rw[if_pos hm]
 have p2:gF l (0+Int.toNat (m:Int)) (Int.toNat (len l) - Int.toNat (m:Int))=some (l.drop m):=by
  unfold gF
  simp only[Int.toNat_natCast,Nat.zero_add,len]
  rw[if_pos (by omega),List.take_of_length_le (by rw[List.length_drop];omega)]
 have a1:iy 16 ([]:List ae) (l.take m)=some (l.take m):=by rw[Kj (by simp only[List.length_nil,List.length_take];omega) (by simp only[List.length_nil,List.length_take];omega)];rfl
 have a2:iy 16 (l.take m) [n]=some (l.take m++[n]):=oQ (by rw[List.length_take];omega) (by rw[List.length_take];omega)
 have a3:iy 16 (l.take m++[n]) (l.drop m)=some (l.take m++[n]++l.drop m):=Kj (by simp only[List.length_append,List.length_take,List.length_drop,List.length_singleton];omega) (by simp only[List.length_append,List.length_take,List.length_drop,List.length_singleton];omega)
 have hins:(∀x∈l.drop m,Lt n x)→(l.take m++[n]++l.drop m).Pairwise Lt∧(∀x,x∈l.take m++[n]++l.drop m↔x∈l∨x=n)∧(l.take m++[n]++l.drop m).length≤l.length+1:=by
  intro hhi
  have hs2:=hs
  rw[←List.take_append_drop m l,List.pairwise_append] at hs2
  refine⟨List.pairwise_append.2 ⟨List.pairwise_append.2 ⟨hs2.1,List.pairwise_singleton _ _,fun x hx y hy=>?_⟩,hs2.2.1,fun x hx y hy=>?_⟩,fun x=>?_,?_⟩
  ·rw[List.mem_singleton] at hy;subst hy;exact hlow x hx
  ·rcases List.mem_append.1 hx with hx | hx
   ·exact hs2.2.2 x hx y hy
   ·rw[List.mem_singleton] at hx;subst hx;exact hhi y hy
  ·have:x∈l↔x∈l.take m∨x∈l.drop m:=by
    rw[←List.mem_append,List.take_append_drop]
   rw[List.mem_append,List.mem_append,List.mem_singleton,this]
   constructor
   ·rintro ((h | h) | h)
    ·exact .inl (.inl h)
    ·exact .inr h
    ·exact .inl (.inr h)
   ·rintro ((h | h) | h)
    ·exact .inl (.inl h)
    ·exact .inr h
    ·exact .inl (.inr h)
  ·simp only[List.length_append,List.length_take,List.length_drop,List.length_singleton];omega
 by_cases hb:m<l.length
 ·have hx:=List.getElem?_eq_getElem hb
  have hge:=h2 _ hx
  have hrest:∀x∈l.drop (m+1),Lt l[m] x:=by
   intro x hx
   obtain⟨i,hi,rfl⟩:=List.mem_iff_getElem.1 hx
   rw[List.length_drop] at hi
   rw[List.getElem_drop]
   exact List.pairwise_iff_getElem.1 hs m (m+1+i) hb (by omega) (by omega)
  rw[decide_eq_true hb,cond_true,b8,hx,Option.bind_some,fW,qA]
  by_cases he:l[m]=n
  ·rw[decide_eq_true he,cond_true]
   refine⟨l,rfl,hs,fun x=>⟨.inl,?_⟩,by omega⟩
   rintro (h | h)
   ·exact h
   ·rw[h,←he];exact List.getElem_mem hb
  ·rw[decide_eq_false he,cond_false]
   simp only[s1,p1,a1,a2,s2,p2,a3,Option.bind_some]
   refine⟨_,rfl,hins ?_⟩
   intro x hx
   rw[List.drop_eq_getElem_cons hb] at hx
   rcases List.mem_cons.1 hx with rfl | hx
   ·exact (tri n l[m]).resolve_right fun h=>h.elim (fun e=>he e.symm) hge
   ·have h1:Lt n l[m]:=(tri n l[m]).resolve_right fun h=>h.elim (fun e=>he e.symm) hge
    exact h1.trans (hrest x hx)
 ·rw[decide_eq_false hb,cond_false,fW,cond_false]
  simp only[s1,p1,a1,a2,s2,p2,a3,Option.bind_some]
  refine⟨_,rfl,hins ?_⟩
  intro x hx
  rw[List.drop_of_length_le (by omega)] at hx
  cases hx
end StrL
theorem yu {x y:ae}:decide (x≤y)=true↔StrL.Le x y:=by
 unfold StrL.Le StrL.Lt
 rw[Go.Proofs.bytesLess_eq,decide_eq_true_iff,decide_eq_true_iff]
 exact Iff.rfl
theorem Wl (l:List ae):(l.mergeSort fun x y=>decide (x≤y)).Pairwise StrL.Le:=by
 have h:=List.pairwise_mergeSort (le:=fun x y:ae=>decide (x≤y)) (fun x y z h1 h2=>by
  rw[yu] at *;exact h1.trans h2) (fun x y=>by
  rw[Bool.or_eq_true,yu,yu]
  rcases StrL.tri x y with h | h | h
  ·exact .inl h.le
  ·subst h;exact .inl fun h=>h.irrefl
  ·exact .inr h.le) l
 exact h.imp fun {x y} h=>yu.1 h
theorem XL (l r:List ae)(hl:l.length≤1048576)(hr:r.Pairwise StrL.Lt)(hm:∀x,x∈r↔x∈l):J7 l=some r:=by
 unfold J7 uq
 have hl2:(l.mergeSort fun (x y:ae)=>decide (x≤y)).length=l.length:=List.length_mergeSort _
 rw[Nat.ble_eq_true_of_le hl,cond_true,Option.bind_some,hl2,Nat.beq_refl,cond_true,StrL.compact_val _ (by rw[hl2];exact hl),Option.bind_some]
 obtain⟨h1,h2⟩:=StrL.dd_ok (Wl l)
 congr 1
 refine StrL.asc_uniq h1 hr fun x=>?_
 rw[h2,hm]
 exact (List.mergeSort_perm l _).mem_iff
theorem BF (b x:Bool):(bif b then x else false)=(b&&x):=by cases b<;>rfl
def gW (x a b:Int):Bool:=decide (x≥a)&&decide (x≤b)
theorem ym (x a b:Int):fw x a b=some (gW x a b):=by simp only[fw,iu,BF,gW]
theorem tZ (x a b:Int):oz x a b=some (gW x a b):=by simp only[oz,iu,BF,gW]
def kK (c:UInt8):Bool:=(decide (97≤c.toNat)&&decide (c.toNat≤122))||(decide (48≤c.toNat)&&decide (c.toNat≤57))
theorem Tq (c:UInt8):wo (c.toNat:Int)=some (kK c):=by
 simp only[wo,kK,iu]
 by_cases h1:97≤c.toNat<;>by_cases h2:c.toNat≤122<;>by_cases h3:48≤c.toNat<;>by_cases h4:c.toNat≤57<;>simp[h1,h2,h3,h4,show ((97:Int)≤c.toNat)↔97≤c.toNat by omega,show ((c.toNat:Int)≤122)↔c.toNat≤122 by omega,show ((48:Int)≤c.toNat)↔48≤c.toNat by omega,show ((c.toNat:Int)≤57)↔c.toNat≤57 by omega]
def mm:List ae:=[[116,114,117,101],[102,114,111,109],[110,111,116],[97,110,100],[111,114],[98,111,116,104],[101,105,116,104,101,114],[105,116],[105,110]]
def jb (s:ae):Bool:=match s with
 | []=>false
 | c::r=>decide (r.length<8)&&decide (97≤c.toNat)&&decide (c.toNat≤122)&&s.all kK && !mm.contains s
theorem X3 (b x:Bool):(bif b then b else x)=(b||x):=by cases b<;>rfl
theorem MZ:Bv [116,114,117,101,32,102,114,111,109,32,110,111,116,32,97,110,100,32,111,114,32,98,111,116,104,32,101,105,116,104,101,114,32,105,116,32,105,110] [32]=some mm:=by
 have h:xN [116,114,117,101,32,102,114,111,109,32,110,111,116,32,97,110,100,32,111,114,32,98,111,116,104,32,101,105,116,104,101,114,32,105,116,32,105,110] [32] 0 (-1) 9 ([116,114,117,101,32,102,114,111,109,32,110,111,116,32,97,110,100,32,111,114,32,98,111,116,104,32,101,105,116,104,101,114,32,105,116,32,105,110],0,List.replicate 9 [])=some (.inr ([105,110],8,[[116,114,117,101],[102,114,111,109],[110,111,116],[97,110,100],[111,114],[98,111,116,104],[101,105,116,104,101,114],[105,116],[]])):=
  (js (fun a=>(zk _ _ _ _ _ a).1)).2 ⟨20,by decide +kernel⟩
 have e:Bv [116,114,117,101,32,102,114,111,109,32,110,111,116,32,97,110,100,32,111,114,32,98,111,116,104,32,101,105,116,104,101,114,32,105,116,32,105,110] [32]=(bD (xN [116,114,117,101,32,102,114,111,109,32,110,111,116,32,97,110,100,32,111,114,32,98,111,116,104,32,101,105,116,104,101,114,32,105,116,32,105,110] [32] 0 (-1) 9 ([116,114,117,101,32,102,114,111,109,32,110,111,116,32,97,110,100,32,111,114,32,98,111,116,104,32,101,105,116,104,101,114,32,105,116,32,105,110],0,List.replicate 9 [])) fun u12:ae×Int×(List ae)=>(aC u12.2.2 u12.2.1).bind fun e13=>(gb (aK u12.2.2 u12.2.1 u12.1).length 0 (ac (u12.2.1+1))).bind fun s14=>(gF (aK u12.2.2 u12.2.1 u12.1) (0+Int.toNat (0)) (Int.toNat ((ac (u12.2.1+1))) - Int.toNat (0))).bind fun p15=>some p15).bind fun r=>some r:=by rfl
 rw[e,h]
 rfl
theorem Gy (s:ae):sx mm s=some (mm.contains s):=by
 unfold sx AH
 rw[xZ (L:=qr mm s) (a:=mm) (p:=fun e=>some (s==e)) (q:=fun e=>s==e) (fun _ _=>rfl) (fun x=>by rw[Dc,lb]<;>rfl) (by decide)]
 cases h:mm.findIdx? (fun e=>s==e) with
 | none=>
  have:mm.contains s=false:=by
   rw[List.findIdx?_eq_none_iff] at h
   rw[Bool.eq_false_iff]
   intro hc
   rw[List.contains_iff_exists_mem_beq] at hc
   obtain⟨w,hw,he⟩:=hc
   rw[h w hw] at he
   cases he
  rw[this]
  rfl
 | some i=>
  have:mm.contains s=true:=by
   rw[List.findIdx?_eq_some_iff_getElem] at h
   obtain⟨hi,he,_⟩:=h
   rw[List.contains_iff_exists_mem_beq]
   exact⟨_,List.getElem_mem hi,he⟩
  rw[this]
  simp
theorem Pt (s:ae):(bif s==[116,114,117,101] then s==[116,114,117,101] else bif s==[102,114,111,109] then s==[102,114,111,109] else bif s==[110,111,116] then s==[110,111,116] else bif s==[97,110,100] then s==[97,110,100] else bif s==[111,114] then s==[111,114] else bif s==[98,111,116,104] then s==[98,111,116,104] else bif s==[101,105,116,104,101,114] then s==[101,105,116,104,101,114] else bif s==[105,116] then s==[105,116] else s==[105,110])=mm.contains s:=by
 simp only[X3,mm,List.contains_cons,List.contains_nil,Bool.or_false]
theorem sr (s:ae)(hs:s.length≤1048576):sB s=some (jb s):=by
 unfold sB fw jb
 simp only[iu,Option.bind_some,Pt]
 cases s with
 | nil=>rfl
 | cons c r=>
  have e1:decide (len (c::r)≥1)=true:=decide_eq_true (by simp[len];omega)
  have e2:decide (len (c::r)≤8)=decide (r.length<8):=by simp only[len,List.length_cons];congr 1;apply propext;omega
  have e3:aC (c::r) (0:Int)=some c:=rfl
  have e4:decide ((c.toNat:Int)<97)=!decide (97≤c.toNat):=by rw[←decide_not];congr 1;apply propext;omega
  have e5:decide ((c.toNat:Int)>122)=!decide (c.toNat≤122):=by rw[←decide_not];congr 1;apply propext;omega
  rw[e1,e2,e3,Gw (r:=false) (L:=tF (c::r)) (a:=c::r) (p:=fun c=>(wo (c.toNat:Int)).bind fun r=>some (!r)) (q:=fun c=>!kK c) (fun x _=>by rw[Tq];rfl) (fun x=>by rw[Oo,nk];simp only[Option.bind_assoc,Option.bind_some]) (by omega)]
  simp only[cond_true,Option.bind_some,e4,e5]
  have e6:((c::r).any fun c=>!kK c)=!((c::r).all kK):=by rw[List.not_all_eq_any_not]
  rw[e6]
  cases decide (r.length<8)<;>cases decide (97≤c.toNat)<;>cases decide (c.toNat≤122)<;>cases (c::r).all kK<;>cases mm.contains (c::r)<;>rfl
theorem se (s:ae)(hs:s.length≤1048576):wC s=some (jb s):=by
 unfold wC oz jb
 simp only[iu,Option.bind_some,MZ,Gy]
 cases s with
 | nil=>rfl
 | cons c r=>
  have e1:decide (len (c::r)≥1)=true:=decide_eq_true (by simp[len];omega)
  have e2:decide (len (c::r)≤8)=decide (r.length<8):=by simp only[len,List.length_cons];congr 1;apply propext;omega
  have e3:aC (c::r) (0:Int)=some c:=rfl
  have e4:decide ((c.toNat:Int)<97)=!decide (97≤c.toNat):=by rw[←decide_not];congr 1;apply propext;omega
  have e5:decide ((c.toNat:Int)>122)=!decide (c.toNat≤122):=by rw[←decide_not];congr 1;apply propext;omega
  have hp:∀c:UInt8,(bif decide ((c.toNat:Int)<97) then (bif decide ((c.toNat:Int)<48) then true else decide ((c.toNat:Int)>57)) else (bif decide ((c.toNat:Int)>122) then (bif decide ((c.toNat:Int)<48) then true else decide ((c.toNat:Int)>57)) else false))=!kK c:=by
   intro c
   have f1:decide ((c.toNat:Int)<97)=!decide (97≤c.toNat):=by rw[←decide_not];congr 1;apply propext;omega
   have f2:decide ((c.toNat:Int)>122)=!decide (c.toNat≤122):=by rw[←decide_not];congr 1;apply propext;omega
   have f3:decide ((c.toNat:Int)<48)=!decide (48≤c.toNat):=by rw[←decide_not];congr 1;apply propext;omega
   have f4:decide ((c.toNat:Int)>57)=!decide (c.toNat≤57):=by rw[←decide_not];congr 1;apply propext;omega
   rw[f1,f2,f3,f4]
   unfold kK
   by_cases g1:97≤c.toNat
   ·have g3:48≤c.toNat:=by omega
    have g4:¬c.toNat≤57:=by omega
    simp only[g1,g3,g4,decide_true,decide_false]
    cases decide (c.toNat≤122)<;>rfl
   ·simp only[g1,decide_false]
    cases decide (48≤c.toNat)<;>cases decide (c.toNat≤57)<;>rfl
  rw[e1,e2,e3,Gw (r:=false) (L:=wD (c::r)) (a:=c::r) (p:=fun c=>some (!kK c)) (q:=fun c=>!kK c) (fun x _=>rfl) (fun x=>by rw[Sc,oL];simp only[iu,hp,Option.bind_some]) (by omega)]
  simp only[cond_true,Option.bind_some,e4,e5]
  have e6:((c::r).any fun c=>!kK c)=!((c::r).all kK):=by rw[List.not_all_eq_any_not]
  rw[e6]
  cases decide (r.length<8)<;>cases decide (97≤c.toNat)<;>cases decide (c.toNat≤122)<;>cases (c::r).all kK<;>cases mm.contains (c::r)<;>rfl
theorem nY {ρ υ σ : Type}{L : Nat → σ → Option (ρ ⊕ υ)}(N : Nat)(J : Nat → σ → Prop)(T : ρ ⊕ υ → Prop)(hs : ∀ i s,i < N→J i s→(∃ s',J (i + 1) s' ∧ L i s=L (i + 1) s') ∨ ∃ y,T y ∧ L i s=some y)(he : ∀ s,J N s→∃ y,T y ∧ L N s=some y){s : σ}(h0 : J 0 s) : ∃ y,T y ∧ L 0 s=some y:=by
  have key : ∀ k i s,i + k=N→J i s→∃ y,T y ∧ L i s=some y:=by
    intro k
    induction k with
    | zero => intro i s hi hj; obtain rfl : i = N := by omega
              exact he s hj
    | succ k ih =>
      intro i s hi hj
      rcases hs i s (by omega) hj with ⟨s',h1,h2⟩ | h
      · rw [h2]; exact ih (i + 1) s' (by omega) h1
      · exact h
  exact key N 0 s (by omega) h0
theorem XT {α:Type}{L:Int→Option (Bool⊕Unit)}{a:List α}{f:α→Option Bool}{p:α→Bool}(hf:∀x∈a,f x=some (p x))(hL:∀x,L x=bif decide (x<len a) then (aC a x).bind fun e=>(f e).bind fun r=>bif !r then some (.inl false) else L (ac (x+1)) else some (.inr ()))(hb:a.length<9223372036854775807):L 0=some (if a.all p then .inr () else .inl false):=by
 obtain⟨y,h1,h2⟩:=nY (L:=fun i (_:Unit)=>L (i:Int)) a.length (fun i _=>(a.take i).all p=true) (fun y=>y=if a.all p then .inr () else .inl false) (s:=())
  (by
   intro i _ hi hj
   have hx:=List.getElem?_eq_getElem hi
   rw[show L (i:Int)=_ from hL _,bX,decide_eq_true hi,cond_true,b8,hx,Option.bind_some,hf _ (List.getElem_mem hi),Option.bind_some,cV (by omega)]
   cases hp:p a[i] with
   | true=>
    refine .inl ⟨(),?_,rfl⟩
    rw[List.take_add_one,hx,List.all_append,hj]
    simp[hp]
   | false=>
    refine .inr ⟨_,?_,rfl⟩
    rw[if_neg]
    intro h
    rw[List.all_eq_true] at h
    rw[h _ (List.getElem_mem hi)] at hp
    cases hp)
  (by
   intro _ hj
   refine⟨_,rfl,?_⟩
   rw[List.take_length] at hj
   rw[show L (a.length:Int)=_ from hL _,bX,decide_eq_false (by omega),cond_false,if_pos hj]) (by simp)
 rw[show L 0=some y from h2,h1]
theorem BD {ρ υ α:Type}{q:α→Bool}{y0 y1:ρ⊕υ}:∀{a:List α} {L:Nat→Option (ρ⊕υ)},(∀(i:Nat) x,a[i]?=some x→L i=bif q x then some y0 else L (i+1))→L a.length=some y1→L 0=some (if a.any q then y0 else y1)
 | [],L,_,he=>by simpa using he
 | x::a,L,hL,he=>by
  rw[hL 0 x rfl,BD (a:=a) (L:=fun i=>L (i+1)) (y0:=y0) (y1:=y1) (fun i z hz=>hL (i+1) z (by simpa using hz)) (by simpa using he),List.any_cons]
  cases q x<;>rfl
def sd (c:Condition):Bool:=
 if c.Op=1 then decide (c.Parts.length=0)&&(decide (c.Name=[])&&decide (c.Day=0))
 else if c.Op=2 then decide (c.Parts.length=0)&&(jb c.Name&&decide (c.Day=0))
 else if c.Op=3 then decide (c.Parts.length=0)&&(decide (c.Name=[])&&gW c.Day 0 36524)
 else if c.Op=4 then decide (c.Parts.length=1)&&(decide (c.Name=[])&&decide (c.Day=0))
 else if c.Op=5∨c.Op=6 then decide (c.Parts.length=2)&&(decide (c.Name=[])&&decide (c.Day=0))
 else false
mutual
def f7:Condition→Bool
 | ⟨a0,a1,a2,a3⟩=>sd ⟨a0,a1,a2,a3⟩&&xX a3
def xX:List Condition→Bool
 | []=>true
 | x::xs=>f7 x&&xX xs
end
theorem zw:∀a,xX a=a.all f7
 | []=>rfl
 | x::xs=>by simp[xX,zw xs]
theorem wW (c:Condition):f7 c=(sd c&&c.Parts.all f7):=by cases c;simp only[f7,zw]
theorem ye {α:Type}{a:List α}{n:Nat}:(len a==(n:Int))=decide (a.length=n):=by
 rw[ub]
 by_cases h:a.length=n
 ·rw[decide_eq_true h,decide_eq_true];simp only[len];omega
 ·rw[decide_eq_false h,decide_eq_false];simp only[len];omega
theorem Tp (c:Condition)(hn:c.Name.length≤1048576):Bb c=some (sd c):=by
 have l0:(len c.Parts==0)=decide (c.Parts.length=0):=ye (n:=0)
 have l1:(len c.Parts==1)=decide (c.Parts.length=1):=ye (n:=1)
 have l2:(len c.Parts==2)=decide (c.Parts.length=2):=ye (n:=2)
 unfold Bb sd
 simp only[iu,sr _ hn,Option.bind_some,F6,ym,l0,l1,l2,qA,ub,BF]
 by_cases o1:c.Op=1
 ·simp only[o1,decide_true,cond_true,if_true]
 by_cases o2:c.Op=2
 ·rw[decide_eq_false o1,decide_eq_true o2,cond_false,cond_true,if_neg o1,if_pos o2]
  cases decide (c.Parts.length=0)<;>rfl
 by_cases o3:c.Op=3
 ·rw[decide_eq_false o1,decide_eq_false o2,decide_eq_true o3,cond_false,cond_false,cond_true,if_neg o1,if_neg o2,if_pos o3]
  cases decide (c.Parts.length=0)<;>cases decide (c.Name=[])<;>rfl
 by_cases o4:c.Op=4
 ·rw[decide_eq_false o1,decide_eq_false o2,decide_eq_false o3,decide_eq_true o4,if_neg o1,if_neg o2,if_neg o3,if_pos o4]
  rfl
 rw[decide_eq_false o1,decide_eq_false o2,decide_eq_false o3,decide_eq_false o4,if_neg o1,if_neg o2,if_neg o3,if_neg o4]
 by_cases o5:c.Op=5
 ·simp only[o5,decide_true,cond_true,cond_false,true_or,if_true]
 ·by_cases o6:c.Op=6
  ·rw[if_pos (.inr o6),decide_eq_false o5,decide_eq_true o6];rfl
  ·rw[if_neg (by omega),decide_eq_false o5,decide_eq_false o6];rfl
theorem Pr (c:Condition):ci c→F7 c=some (f7 c):=by
 refine gc (P:=fun c=>ci c→F7 c=some (f7 c)) ?_ c
 intro c ih hc
 rw[gl] at hc
 rw[Xp]
 unfold tD
 rw[Tp c hc.2.1,Option.bind_some,wW]
 cases sd c with
 | false=>rfl
 | true=>
  have hl:c.Parts.length≤1048576:=hc.2.2.2.1.1
  simp only[Bool.not_true,cond_false,Bool.true_and]
  rw[XT (L:=qu (aP qG) c) (a:=c.Parts) (f:=fun e=>F7 e) (p:=f7) (fun x hx=>ih x hx (hc.2.2.2.1.2 x hx)) (fun x=>by rw[Ol,lj]<;>rfl) (by omega)]
  cases c.Parts.all f7<;>rfl
theorem qz (a:List Condition)(i:Nat)(h:i<a.length):aO (a.take (i+1))=aO (a.take i)+bM a[i]:=by
 have app:∀(x y:List Condition),aO (x++y)=aO x+aO y:=by
  intro x y
  induction x with
  | nil=>simp[aO]
  | cons z x ih=>simp only[List.cons_append,aO,ih];omega
 rw[List.take_add_one,List.getElem?_eq_getElem h,app]
 simp[aO]
theorem me (a:List Condition)(i:Nat):aO (a.take i)≤aO a:=by
 have app:∀(x y:List Condition),aO (x++y)=aO x+aO y:=by
  intro x y
  induction x with
  | nil=>simp[aO]
  | cons z x ih=>simp only[List.cons_append,aO,ih];omega
 have:=app (a.take i) (a.drop i)
 rw[List.take_append_drop] at this
 omega
theorem aap {a:List Condition}{i:Nat}(h:i<a.length):bM a[i]≤aO a:=by
 have h1:=qz a i h
 have h2:=me a (i+1)
 omega
theorem Tr (c:Condition):bM c≤2000000→JK c=some ((bM c:Nat):Int):=by
 refine gc (P:=fun c=>bM c≤2000000→JK c=some ((bM c:Nat):Int)) ?_ c
 intro c ih hc
 have hc':=fC c
 have hcs:=hC c.Parts
 rw[Xr]
 unfold tK
 obtain⟨y,h1,h2⟩:=nY (L:=fun i (s:Int)=>lX (aP lq) c (s,(i:Int))) c.Parts.length (fun i s=>s=((1+aO (c.Parts.take i):Nat):Int)) (fun y=>y=.inr ((bM c:Nat):Int)) (s:=1)
  (by
   intro i s hi hj
   have hx:=List.getElem?_eq_getElem hi
   have h3:=qz c.Parts i hi
   have h4:=me c.Parts (i+1)
   refine .inl ⟨((1+aO (c.Parts.take (i+1)):Nat):Int),rfl,?_⟩
   show lX (aP lq) c (s,(i:Int))=_
   rw[Ee,jT]
   simp only[bX,decide_eq_true hi,cond_true,b8,hx,Option.bind_some]
   rw[show aP lq c.Parts[i]=some ((bM c.Parts[i]:Nat):Int) from ih _ (List.getElem_mem hi) (by omega),Option.bind_some,cV (by omega),hj,dV (by omega) (by omega)]
   congr 2
   omega)
  (by
   intro s hj
   refine⟨_,rfl,?_⟩
   rw[List.take_length] at hj
   show lX (aP lq) c (s,(c.Parts.length:Int))=_
   rw[Ee,jT]
   simp only[bX,decide_eq_false (Nat.lt_irrefl _),cond_false]
   rw[hj,hc']) (by simp[aO])
 rw[show lX (aP lq) c (1,0)=some y from h2,h1]
 rfl
def pY (c:Condition):Bool:=f7 c&&decide (bM c≤15)
theorem abA {c:Condition}(h:ci c):bM c≤1048577:=by
 rw[gl] at h
 rw[fC]
 omega
theorem Tn (c:Condition)(h:ci c):Be c=some (pY c):=by
 unfold Be pY
 rw[Pr c h,Option.bind_some]
 cases f7 c with
 | false=>rfl
 | true=>
  have:=abA h
  simp only[cond_true,Bool.true_and]
  rw[Tr c (by omega),Option.bind_some,fW]
  congr 1
  by_cases h:bM c≤15
  ·rw[decide_eq_true h,decide_eq_true (by omega)]
  ·rw[decide_eq_false h,decide_eq_false (by omega)]
def Pz (op:Int):Nat:=if op=4 then 1 else if op=5∨op=6 then 2 else 0
def GG (c:Condition):Bool:=gW c.Op 1 6&&decide (c.Parts.length=Pz c.Op)
def FD (c:Condition):Bool:=((c.Op==2) == !(c.Name==([]:ae)))&&((if c.Op=2 then jb c.Name else true)&&((if c.Op=3 then true else decide (c.Day=0))&&gW c.Day 0 36524))
theorem ua {x a b:Int}:gW x a b=true↔a≤x∧x≤b:=by simp[gW]
theorem SP (c:Condition):((oz c.Op 1 6).bind fun r20=>bQ (ρ:=Int) (bif (!r20) then (some (.inr true)) else ((aC [(-1),0,0,0,1,2,2] c.Op).bind fun e22=>some (.inr ((len c.Parts) != e22)))) fun u21:Bool=>(some (.inr u21):Option (Int⊕Bool)))=some (.inr (!GG c)):=by
 rw[tZ,Option.bind_some]
 unfold GG
 cases h:gW c.Op 1 6 with
 | false=>rfl
 | true=>
  rw[ua] at h
  have ho:c.Op=1∨c.Op=2∨c.Op=3∨c.Op=4∨c.Op=5∨c.Op=6:=by omega
  have key:aC [(-1),0,0,0,1,2,2] c.Op=some ((Pz c.Op:Nat):Int):=by rcases ho with h | h | h | h | h | h<;>rw[h]<;>rfl
  simp only[Bool.not_true,cond_false,key,Option.bind_some,gL,Bool.true_and,bne,ye]
theorem SQ (c:Condition)(hn:c.Name.length≤1048576):(bif (!((c.Op==2)==(!(c.Name==([]:ae))))) then (some (.inr true)) else (bQ (ρ:=Int) (bif (c.Op==2) then ((wC c.Name).bind fun r10=>bQ (ρ:=Int) (bif (!r10) then (some (.inr true)) else (bQ (ρ:=Int) (bif (c.Op != 3) then (bQ (ρ:=Int) (bif (c.Day != 0) then (some (.inr true)) else ((tR c.Day).bind fun r14=>some (.inr (!r14)))) fun u13:Bool=>some (.inr u13)) else ((tR c.Day).bind fun r15=>some (.inr (!r15)))) fun u12:Bool=>some (.inr u12))) fun u11:Bool=>some (.inr u11)) else (bQ (ρ:=Int) (bif (c.Op != 3) then (bQ (ρ:=Int) (bif (c.Day != 0) then (some (.inr true)) else ((tR c.Day).bind fun r18=>some (.inr (!r18)))) fun u17:Bool=>some (.inr u17)) else ((tR c.Day).bind fun r19=>some (.inr (!r19)))) fun u16:Bool=>some (.inr u16))) fun u9:Bool=>(some (.inr u9):Option (Int⊕Bool))))=some (.inr (!FD c)):=by
 unfold FD
 simp only[se _ hn,tR,tZ,Option.bind_some,NL]
 cases ((c.Op==2) == !(c.Name==([]:ae))) with
 | false=>rfl
 | true=>
  simp only[Bool.not_true,cond_false,Bool.true_and]
  by_cases o2:c.Op=2
  ·simp only[o2,if_true,show ((2:Int)==2)=true from rfl,cond_true,show ¬(2:Int)=3 by omega,if_false,decide_false,Bool.not_false]
   cases jb c.Name<;>by_cases hd:c.Day=0<;>simp[hd]
  ·have:(c.Op==2)=false:=beq_eq_false_iff_ne.2 o2
   rw[this,cond_false,if_neg o2]
   by_cases o3:c.Op=3
   ·simp[o3]
   ·by_cases hd:c.Day=0<;>simp[o3,hd]
theorem Fi (c:Condition):sd c=(GG c&&FD c):=by
 have name0:c.Name=[]→jb c.Name=false:=fun h=>by rw[h];rfl
 have d0:c.Day=0→gW c.Day 0 36524=true:=fun h=>by rw[h];rfl
 have in1:gW c.Op 1 6=decide (1≤c.Op∧c.Op≤6):=by rw[Bool.eq_iff_iff,ua,decide_eq_true_iff]
 unfold sd GG FD
 rw[in1,show Pz c.Op=if c.Op=4 then 1 else if c.Op=5∨c.Op=6 then 2 else 0 from rfl]
 by_cases hn:c.Name=[]
 ·by_cases hd:c.Day=0
  ·by_cases o1:c.Op=1
   ·simp[o1,hn,hd,gW]
   by_cases o2:c.Op=2
   ·simp[o2,hn,hd,jb]
   by_cases o3:c.Op=3
   ·simp[o3,hn,hd,gW]
   by_cases o4:c.Op=4
   ·simp[o4,hn,hd,gW]
   by_cases o5:c.Op=5
   ·simp[o5,hn,hd,gW]
   by_cases o6:c.Op=6
   ·simp[o6,hn,hd,gW]
   have:¬(1≤c.Op∧c.Op≤6):=by omega
   simp[o1,o2,o3,o4,o5,o6,decide_eq_false this]
  ·by_cases o3:c.Op=3
   ·simp[o3,hn]
   ·by_cases o2:c.Op=2<;>simp[o2,o3,hd]
 ·have hb:(c.Name==([]:ae))=false:=beq_eq_false_iff_ne.2 hn
  by_cases o2:c.Op=2
  ·by_cases hd:c.Day=0<;>simp[o2,hn,hd,gW,hb]
  ·simp[o2,hn,hb]
theorem Pb (c:Condition):ci c→∀so:Nat,so≤15→Sg c (so:Int)=some (if f7 c=true∧so+bM c≤15 then ((so+bM c:Nat):Int) else -1):=by
 refine gc (P:=fun c=>ci c→∀so:Nat,so≤15→Sg c (so:Int)=some (if f7 c=true∧so+bM c≤15 then ((so+bM c:Nat):Int) else -1)) ?_ c
 intro c ih hc so hso
 rw[gl] at hc
 have hnc:=fC c
 rw[Z4]
 unfold xQ
 rw[SP,SQ c hc.2.1,cV (by omega),wW,Fi]
 by_cases h15:so+1≤15
 ·rw[decide_eq_false (by omega),cond_false]
  cases GG c with
  | false=>rfl
  | true=>
  cases FD c with
  | false=>rfl
  | true=>
   simp only[Bool.not_true,fW,cond_false,Bool.true_and]
   obtain⟨y,h1,h2⟩:=nY (L:=fun i (s:Int)=>mr (aP mD) c (so:Int) (s,(i:Int))) c.Parts.length
    (fun i s=>s=((so+1+aO (c.Parts.take i):Nat):Int)∧so+1+aO (c.Parts.take i)≤15∧(c.Parts.take i).all f7=true)
    (fun y=>y=if c.Parts.all f7=true∧so+bM c≤15 then .inr ((so+bM c:Nat):Int) else .inl (-1)) (s:=((so+1:Nat):Int))
    (by
     rintro i s hi ⟨hj,hj2,hj3⟩
     have hx:=List.getElem?_eq_getElem hi
     have h3:=qz c.Parts i hi
     have h4:=me c.Parts (i+1)
     have h5:=ih _ (List.getElem_mem hi) (hc.2.2.2.1.2 _ (List.getElem_mem hi)) (so+1+aO (c.Parts.take i)) hj2
     show (∃s',_∧mr (aP mD) c (so:Int) (s,(i:Int))=_)∨∃y,_∧mr (aP mD) c (so:Int) (s,(i:Int))=_
     rw[G6,lz]
     simp only[bX,decide_eq_true hi,cond_true,b8,hx,Option.bind_some,hj]
     rw[show aP mD (c.Parts[i],((so+1+aO (c.Parts.take i):Nat):Int))=_ from h5,Option.bind_some,cV (by have:=hc.2.2.2.1.1;omega)]
     by_cases hq:f7 c.Parts[i]=true∧so+1+aO (c.Parts.take i)+bM c.Parts[i]≤15
     ·rw[if_pos hq,decide_eq_false (by omega),cond_false]
      refine .inl ⟨_,⟨?_,?_,?_⟩,rfl⟩
      ·congr 1;omega
      ·omega
      ·rw[List.take_add_one,hx,List.all_append,hj3];simp[hq.1]
     ·rw[if_neg hq,decide_eq_true (by omega),cond_true]
      refine .inr ⟨_,?_,rfl⟩
      rw[if_neg]
      rintro⟨h6,h7⟩
      rw[List.all_eq_true] at h6
      exact hq ⟨h6 _ (List.getElem_mem hi),by omega⟩)
    (by
     rintro s ⟨hj,hj2,hj3⟩
     rw[List.take_length] at *
     show ∃y,_∧mr (aP mD) c (so:Int) (s,(c.Parts.length:Int))=_
     rw[G6,lz]
     simp only[bX,decide_eq_false (Nat.lt_irrefl _),cond_false]
     refine⟨_,?_,rfl⟩
     rw[if_pos ⟨hj3,by omega⟩,hj]
     congr 2;omega) ⟨by simp[aO],by simp[aO];omega,by simp⟩
   rw[show mr (aP mD) c (so:Int) (((so+1:Nat):Int),0)=some y from h2,h1]
   by_cases hq:c.Parts.all f7=true∧so+bM c≤15
   ·rw[if_pos hq,if_pos hq];rfl
   ·rw[if_neg hq,if_neg hq];rfl
 ·rw[decide_eq_true (by omega),cond_true,fW,cond_true,if_neg (by omega)]
theorem SO (c:Condition)(h:ci c):JY c=some (pY c):=by
 unfold JY pY
 rw[show (0:Int)=((0:Nat):Int) from rfl,Pb c h 0 (by omega),Option.bind_some]
 have:=fC c
 congr 1
 cases f7 c with
 | false=>rfl
 | true=>
  by_cases h:bM c≤15
  ·rw[if_pos ⟨rfl,by omega⟩,decide_eq_true (by omega),decide_eq_true h];rfl
  ·rw[if_neg (by omega),decide_eq_false h];rfl
mutual
def ku:Condition→List ae
 | ⟨op,name,_,parts⟩=>(if op=2 then [name] else [])++fq parts
def fq:List Condition→List ae
 | []=>[]
 | x::xs=>ku x++fq xs
end
theorem Ho (c:Condition):ku c=(if c.Op=2 then [c.Name] else [])++fq c.Parts:=by cases c;simp only[ku]
theorem zA:∀(a b:List Condition),fq (a++b)=fq a++fq b
 | [],b=>rfl
 | x::a,b=>by simp only[List.cons_append,fq,zA a b,List.append_assoc]
theorem xf (a:List Condition)(i:Nat)(h:i<a.length):fq (a.take (i+1))=fq (a.take i)++ku a[i]:=by
 rw[List.take_add_one,List.getElem?_eq_getElem h,zA]
 simp[fq]
mutual
theorem Fs:∀c,(ku c).length≤bM c
 | ⟨op,name,day,parts⟩=>by
  have:=sK parts
  simp only[ku,bM,List.length_append]
  split<;>simp<;>omega
theorem sK:∀a,(fq a).length≤aO a
 | []=>by simp[fq]
 | x::a=>by
  have h1:=Fs x
  have h2:=sK a
  simp only[fq,aO,List.length_append]
  omega
end
theorem Pc (c:Condition):∀l:List ae,l.length+bM c≤1000000→Sd c l=some (l++ku c):=by
 refine gc (P:=fun c=>∀l:List ae,l.length+bM c≤1000000→Sd c l=some (l++ku c)) ?_ c
 intro c ih l hl
 have hnc:=fC c
 have hpl:=hC c.Parts
 rw[Z3]
 unfold xP
 have h0:(bif (c.Op==2) then ((iy 16 l [c.Name]).bind fun a8=>some (.inr a8)) else (some (.inr l)):Option (List ae⊕List ae))=some (.inr (l++if c.Op=2 then [c.Name] else [])):=by
  rw[ub]
  by_cases h:c.Op=2
  ·rw[decide_eq_true h,cond_true,oQ (by omega) (by omega),if_pos h];rfl
  ·rw[decide_eq_false h,cond_false,if_neg h,List.append_nil]
 rw[h0,fW]
 have hlen:(l++if c.Op=2 then [c.Name] else []).length≤l.length+1:=by
  rw[List.length_append];split<;>simp
 rw[Ho,←List.append_assoc]
 generalize (l++if c.Op=2 then [c.Name] else [])=l1 at hlen ⊢
 obtain⟨y,h1,h2⟩:=nY (L:=fun i (s:List ae)=>nL (aP nK) c l ((i:Int),s)) c.Parts.length (fun i s=>s=l1++fq (c.Parts.take i)) (fun y=>y=.inr (l1++fq c.Parts)) (s:=l1)
  (by
   intro i s hi hj
   have hx:=List.getElem?_eq_getElem hi
   have h3:=qz c.Parts i hi
   have h4:=me c.Parts (i+1)
   have h5:=sK (c.Parts.take i)
   refine .inl ⟨l1++fq (c.Parts.take (i+1)),rfl,?_⟩
   show nL (aP nK) c l ((i:Int),s)=_
   rw[G4,ly]
   simp only[bX,decide_eq_true hi,cond_true,b8,hx,Option.bind_some]
   rw[show aP nK (c.Parts[i],s)=_ from ih _ (List.getElem_mem hi) s (by rw[hj,List.length_append];omega),Option.bind_some,cV (by omega),hj,xf _ _ hi,List.append_assoc])
  (by
   intro s hj
   refine⟨_,rfl,?_⟩
   rw[List.take_length] at hj
   show nL (aP nK) c l ((c.Parts.length:Int),s)=_
   rw[G4,ly]
   simp only[bX,decide_eq_false (Nat.lt_irrefl _),cond_false]
   rw[hj]) (by simp[fq])
 rw[show nL (aP nK) c l (0,l1)=some y from h2,h1]
 rfl
theorem O3 {c:Condition}(h:sd c=true)(ho:c.Op=2∨c.Op=3):c.Parts=[]:=by
 rw[Fi,GG,Pz] at h
 rw[Bool.and_eq_true,Bool.and_eq_true,decide_eq_true_iff] at h
 have:=h.1.2
 rw[if_neg (by omega),if_neg (by omega)] at this
 exact List.length_eq_zero_iff.1 this
theorem Ps (c:Condition):f7 c=true→∀l:List ae,l.length+bM c≤1000000→l.Pairwise StrL.Lt→∃r,JH l c=some r∧r.Pairwise StrL.Lt∧(∀x,x∈r↔x∈l∨x∈ku c)∧r.length≤l.length+bM c:=by
 refine gc (P:=fun c=>f7 c=true→∀l:List ae,l.length+bM c≤1000000→l.Pairwise StrL.Lt→∃r,JH l c=some r∧r.Pairwise StrL.Lt∧(∀x,x∈r↔x∈l∨x∈ku c)∧r.length≤l.length+bM c) ?_ c
 intro c ih hf l hl hs
 have hnc:=fC c
 have hpl:=hC c.Parts
 rw[wW,Bool.and_eq_true,List.all_eq_true] at hf
 rw[Xq]
 unfold tG
 rw[ub,Ho]
 by_cases ho:c.Op=2
 ·obtain⟨r,e,r1,r2,r3⟩:=StrL.put_val l c.Name (by omega) hs
  rw[decide_eq_true ho,cond_true,e,if_pos ho,O3 hf.1 (.inl ho)]
  exact⟨r,rfl,r1,fun x=>by rw[r2];simp[fq],by omega⟩
 rw[decide_eq_false ho,cond_false,if_neg ho,List.nil_append]
 obtain⟨y,h1,h2⟩:=nY (L:=fun i (s:List ae)=>lW (aP lm) l c ((i:Int),s)) c.Parts.length
  (fun i s=>s.Pairwise StrL.Lt∧(∀x,x∈s↔x∈l∨x∈fq (c.Parts.take i))∧s.length≤l.length+aO (c.Parts.take i))
  (fun y=>∃r,y=.inr r∧r.Pairwise StrL.Lt∧(∀x,x∈r↔x∈l∨x∈fq c.Parts)∧r.length≤l.length+bM c) (s:=l)
  (by
   rintro i s hi ⟨j1,j2,j3⟩
   have hx:=List.getElem?_eq_getElem hi
   have h3:=qz c.Parts i hi
   have h4:=me c.Parts (i+1)
   obtain⟨r,e,r1,r2,r3⟩:=ih _ (List.getElem_mem hi) (hf.2 _ (List.getElem_mem hi)) s (by omega) j1
   refine .inl ⟨r,⟨r1,fun x=>?_,by omega⟩,?_⟩
   ·rw[r2,j2,xf _ _ hi,List.mem_append,or_assoc]
   show lW (aP lm) l c ((i:Int),s)=_
   rw[D8,jS]
   simp only[bX,decide_eq_true hi,cond_true,b8,hx,Option.bind_some]
   rw[show aP lm (s,c.Parts[i])=_ from e,Option.bind_some,cV (by omega)])
  (by
   rintro s ⟨j1,j2,j3⟩
   rw[List.take_length] at *
   refine⟨.inr s,⟨s,rfl,j1,j2,by omega⟩,?_⟩
   show lW (aP lm) l c ((c.Parts.length:Int),s)=_
   rw[D8,jS]
   simp only[bX,decide_eq_false (Nat.lt_irrefl _),cond_false]) ⟨hs,fun x=>by simp[fq],by simp[aO]⟩
 obtain⟨r,rfl,hr⟩:=h1
 rw[show lW (aP lm) l c (0,l)=some (.inr r) from h2]
 exact⟨r,rfl,hr⟩
theorem Kp (l:List ae)(s:ae)(hl:l.length≤1048576):sx l s=some (l.contains s):=by
 unfold sx AH
 rw[xZ (L:=qr l s) (a:=l) (p:=fun e=>some (s==e)) (q:=fun e=>s==e) (fun _ _=>rfl) (fun x=>by rw[Dc,lb]<;>rfl) (by omega)]
 cases h:l.findIdx? (fun e=>s==e) with
 | none=>
  have:l.contains s=false:=by
   rw[List.findIdx?_eq_none_iff] at h
   rw[Bool.eq_false_iff]
   intro hc
   rw[List.contains_iff_exists_mem_beq] at hc
   obtain⟨w,hw,he⟩:=hc
   rw[h w hw] at he
   cases he
  rw[this]
  rfl
 | some i=>
  have:l.contains s=true:=by
   rw[List.findIdx?_eq_some_iff_getElem] at h
   obtain⟨hi,he,_⟩:=h
   rw[List.contains_iff_exists_mem_beq]
   exact⟨_,List.getElem_mem hi,he⟩
  rw[this]
  simp
theorem Vt (a b:ae):(a==b)=(b==a):=by
 rw[qA,qA]
 by_cases h:a=b
 ·simp[h]
 ·simp[h,Ne.symm h]
theorem Ye (l:List ae)(s:ae)(hl:l.length≤1048576):Bg l s=some (l.contains s):=by
 unfold Bg
 rw[Gw (L:=tE l s) (a:=l) (p:=fun e=>some (e==s)) (q:=fun e=>e==s) (r:=true) (fun _ _=>rfl) (fun x=>by rw[Om,ng]<;>rfl) (by omega)]
 have:(l.any fun e=>e==s)=l.contains s:=by
  rw[List.contains_eq_any_beq]
  congr 1
  funext e
  exact Vt e s
 rw[this]
 cases l.contains s<;>rfl
def Vr (l:List ae)(k:Nat):Bool:=match l[k]? with
 | some e=>!jb e||(l.take k).contains e
 | none=>false
def xk (l:List ae):Nat→Nat→Bool
 | 0,_=>true
 | n+1,k=>!Vr l k&&xk l n (k+1)
theorem Lj {α:Type}{l:List α}{k:Nat}(h:k≤l.length):rn l 0 (k:Int)=some (l.take k):=by
 unfold rn
 rw[if_pos (by omega)]
 simp
theorem zI (l:List ae)(cs:List Clause)(hl:lQ pU l):∀(n k:Nat),k+n=l.length→tP ⟨l,cs⟩ (k:Int)=some (bif xk l n k then .inr () else .inl false)
 | 0,k,hk=>by
  have h1:=hl.1
  rw[Eu,lu]
  simp only[bX]
  rw[decide_eq_false (by omega)]
  rfl
 | n+1,k,hk=>by
  have h1:=hl.1
  obtain⟨e,he⟩:∃e,l[k]?=some e:=⟨_,List.getElem?_eq_getElem (by omega)⟩
  rw[Eu,lu]
  simp only[bX]
  rw[decide_eq_true (by omega)]
  simp only[cond_true,b8,he,Option.bind_some,sr e (hl.2 e (List.mem_of_getElem? he)),Lj (show k≤l.length by omega),Ye _ e (show (l.take k).length≤1048576 by rw[List.length_take];omega)]
  rw[cV (by omega),zI l cs hl n (k+1) (by omega)]
  simp only[xk,Vr,he]
  cases jb e<;>cases (l.take k).contains e<;>rfl
theorem zz (l:List ae)(hl:lQ pU l):∀(n k:Nat),k+n=l.length→wE l (k:Int)=some (bif xk l n k then .inr () else .inl false)
 | 0,k,hk=>by
  have h1:=hl.1
  rw[G5,mP]
  simp only[bX]
  rw[decide_eq_false (by omega)]
  rfl
 | n+1,k,hk=>by
  have h1:=hl.1
  obtain⟨e,he⟩:∃e,l[k]?=some e:=⟨_,List.getElem?_eq_getElem (by omega)⟩
  rw[G5,mP]
  simp only[bX]
  rw[decide_eq_true (by omega)]
  simp only[cond_true,b8,he,Option.bind_some,se e (hl.2 e (List.mem_of_getElem? he)),Lj (show k≤l.length by omega),Kp _ e (show (l.take k).length≤1048576 by rw[List.length_take];omega)]
  rw[cV (by omega),zz l hl n (k+1) (by omega)]
  simp only[xk,Vr,he]
  cases jb e<;>cases (l.take k).contains e<;>rfl
def qh (l:List ae):Bool:=xk l l.length 0&&gW (len l) 2 4
theorem Wb (l:List ae)(cs:List Clause)(hl:lQ pU l):wx ⟨l,cs⟩=some (qh l):=by
 unfold wx qh
 have:=zI l cs hl l.length 0 (by omega)
 rw[show (0:Int)=((0:Nat):Int) by rfl,this]
 simp only[ym]
 cases xk l l.length 0<;>rfl
theorem VN (l:List ae)(hl:lQ pU l):J0 l=some (qh l):=by
 unfold J0 qh
 have:=zz l hl l.length 0 (by omega)
 rw[show (0:Int)=((0:Nat):Int) by rfl,this]
 simp only[tZ]
 cases xk l l.length 0<;>rfl
def jZ (cs:List Clause)(id:ae):Int:=match cs.findIdx? (fun e=>e.Id==id) with
 | some i=>(i:Int)
 | none=>-1
theorem HF (c:Contract)(id:ae)(hl:c.Clauses.length≤1048576):uB c id=some (jZ c.Clauses id):=by
 unfold uB jZ
 rw[xZ (L:=tM c id) (a:=c.Clauses) (p:=fun e=>some (e.Id==id)) (q:=fun e=>e.Id==id) (fun _ _=>rfl) (fun x=>by rw[Oq,no]<;>rfl) (by omega)]
 cases c.Clauses.findIdx? (fun e=>e.Id==id)<;>rfl
theorem Hk (c:Contract)(id:ae)(hl:c.Clauses.length≤1048576):EX c id=some (jZ c.Clauses id):=by
 unfold EX FZ jZ
 rw[xZ (L:=tv c.Clauses id) (a:=c.Clauses) (p:=fun e=>some (e.Id==id)) (q:=fun e=>e.Id==id) (fun _ _=>rfl) (fun x=>by rw[Oj,nf]<;>rfl) (by omega)]
 cases c.Clauses.findIdx? (fun e=>e.Id==id)<;>rfl
theorem NG (cs:List Clause)(id:ae):jZ cs id=-1∨∃j:Nat,jZ cs id=(j:Int)∧j<cs.length:=by
 unfold jZ
 cases h:cs.findIdx? (fun e=>e.Id==id) with
 | none=>exact .inl rfl
 | some j=>
  rw[List.findIdx?_eq_some_iff_getElem] at h
  exact .inr ⟨j,rfl,h.1⟩
def K9 (cs:List Clause)(i:Int)(e:Clause):Bool:=match jZ cs e.Repair with
 | .ofNat k=>match cs[k]? with
  | some e'=>((k:Int) != i)&&((e'.Kind==1)&&(e.Kind != 3))
  | none=>false
 | .negSucc _=>false
def kC (c:Contract)(i:Int)(e:Clause):Bool:=
 jb e.Id&&(jb e.Action&&(gW e.Kind 1 4&&(gW e.Party 0 (ac (len c.Parties - 1))&&(gW e.Other 0 (ac (len c.Parties - 1))&&(!(e.Party==e.Other)&&(pY e.When&&(gW e.Amount 0 1000000&&(gW e.Within 0 400&&(!(bif e.Kind != 1 then (bif e.Amount != 0 then true else e.Within != 0) else false) &&
  (bif e.Repair==[] then true else K9 c.Clauses i e))))))))))
theorem Wc (c:Contract)(i:Int)(e:Clause)(hl:c.Clauses.length≤1048576):((uB c e.Repair).bind fun r8=>bD (ρ:=Bool) (bif (decide (r8≥0)) then (bQ (ρ:=Bool) (bif (r8 != i) then ((aC c.Clauses r8).bind fun e11=>cj (bif (e11.Kind==1) then ((e.Kind != 3)) else (false)) fun u12:Bool=>some (.inr u12)) else (some (.inr false))) fun u10:Bool=>some (.inr u10)) else (some (.inr false))) fun u9:Bool=>some u9)=some (K9 c.Clauses i e):=by
 rw[HF c _ hl,Option.bind_some]
 unfold K9
 rcases NG c.Clauses e.Repair with h | ⟨j,h,hj⟩
 ·rw[h];rfl
 ·rw[h,decide_eq_true (by omega),cond_true,b8,List.getElem?_eq_getElem hj,Option.bind_some]
  show _=some (match c.Clauses[j]? with | some e'=>_ | none=>false)
  rw[List.getElem?_eq_getElem hj]
  show _=some (((j:Int) != i)&&((c.Clauses[j].Kind==1)&&(e.Kind != 3)))
  cases ((j:Int) != i)<;>cases (c.Clauses[j].Kind==1)<;>rfl
theorem VO (c:Contract)(i:Int)(e:Clause)(hl:c.Clauses.length≤1048576):((EX c e.Repair).bind fun r10=>bD (ρ:=Bool) (bif (e.Kind != 3) then (bQ (ρ:=Bool) (bif (decide (r10≥0)) then (bQ (ρ:=Bool) (bif (r10 != i) then ((aC c.Clauses r10).bind fun e14=>some (.inr (e14.Kind==1))) else (some (.inr false))) fun u13:Bool=>some (.inr u13)) else (some (.inr false))) fun u12:Bool=>some (.inr u12)) else (some (.inr false))) fun u11:Bool=>some u11)=some (K9 c.Clauses i e):=by
 rw[Hk c _ hl,Option.bind_some]
 unfold K9
 rcases NG c.Clauses e.Repair with h | ⟨j,h,hj⟩
 ·rw[h];cases (e.Kind != 3)<;>rfl
 ·rw[h,decide_eq_true (by omega),cond_true,b8,List.getElem?_eq_getElem hj,Option.bind_some]
  show _=some (match c.Clauses[j]? with | some e'=>_ | none=>false)
  rw[List.getElem?_eq_getElem hj]
  show _=some (((j:Int) != i)&&((c.Clauses[j].Kind==1)&&(e.Kind != 3)))
  cases ((j:Int) != i)<;>cases (c.Clauses[j].Kind==1)<;>cases (e.Kind != 3)<;>rfl
theorem MY (c:Contract)(i:Int)(e:Clause)(he:aC c.Clauses i=some e)(hs:gM e)(hl:c.Clauses.length≤1048576):Bl c i=some (kC c i e):=by
 unfold Bl kC
 rw[he,Option.bind_some,Wc c i e hl]
 simp only[sr _ hs.1,sr _ hs.2.2.2.1,ym,Tn _ hs.2.2.2.2.2.2.1,Option.bind_some,iu]
 cases jb e.Id with | false=>rfl | true=>?_
 cases jb e.Action with | false=>rfl | true=>?_
 cases gW e.Kind 1 4 with | false=>rfl | true=>?_
 cases gW e.Party 0 (ac (len c.Parties - 1)) with | false=>rfl | true=>?_
 cases gW e.Other 0 (ac (len c.Parties - 1)) with | false=>rfl | true=>?_
 cases (e.Party==e.Other) with | true=>rfl | false=>?_
 cases pY e.When with | false=>rfl | true=>?_
 cases gW e.Amount 0 1000000 with | false=>rfl | true=>?_
 cases gW e.Within 0 400 with | false=>rfl | true=>?_
 cases (bif e.Kind != 1 then (bif e.Amount != 0 then true else e.Within != 0) else false) with | true=>rfl | false=>?_
 cases (e.Repair==([]:ae))<;>rfl
theorem MP (c:Contract)(i:Int)(e:Clause)(he:aC c.Clauses i=some e)(hs:gM e)(hl:c.Clauses.length≤1048576):J2 c i=some ((jZ c.Clauses e.Id==i)&&kC c i e):=by
 unfold J2 kC
 rw[he,Option.bind_some,VO c i e hl]
 simp only[se _ hs.1,se _ hs.2.2.2.1,tZ,SO _ hs.2.2.2.2.2.2.1,Option.bind_some,iu,Hk c _ hl,bne]
 cases jb e.Id with | false=>cases (jZ c.Clauses e.Id==i)<;>rfl | true=>?_
 cases (jZ c.Clauses e.Id==i) with | false=>rfl | true=>?_
 cases jb e.Action with | false=>rfl | true=>?_
 cases gW e.Kind 1 4 with | false=>rfl | true=>?_
 cases gW e.Party 0 (ac (len c.Parties - 1)) with | false=>rfl | true=>?_
 cases gW e.Other 0 (ac (len c.Parties - 1)) with | false=>rfl | true=>?_
 cases (e.Party==e.Other) with | true=>rfl | false=>?_
 cases pY e.When with | false=>rfl | true=>?_
 cases gW e.Amount 0 1000000 with | false=>rfl | true=>?_
 cases gW e.Within 0 400 with | false=>rfl | true=>?_
 cases (bif !(e.Kind==1) then (bif !(e.Amount==0) then true else !(e.Within==0)) else false) with | true=>rfl | false=>?_
 cases (e.Repair==([]:ae))<;>rfl
def sP (c:Contract)(i:Nat):Bool:=match c.Clauses[i]? with
 | some e=>(jZ c.Clauses e.Id==(i:Int))&&kC c (i:Int) e
 | none=>true
def jp (c:Contract):Bool:=!((List.range c.Clauses.length).any fun i=>!sP c i)
theorem wS {c:Contract}:jp c=true↔∀(i:Nat) e,c.Clauses[i]?=some e→jZ c.Clauses e.Id=(i:Int)∧kC c (i:Int) e=true:=by
 unfold jp
 rw[Bool.not_eq_true',←Bool.not_eq_true,List.any_eq_true]
 constructor
 ·intro h i e he
  have hi:=(List.getElem?_eq_some_iff.1 he).1
  cases h1:sP c i with
  | false=>exact absurd ⟨i,List.mem_range.2 hi,by rw[h1];rfl⟩ h
  | true=>
   simp only[sP,he,Bool.and_eq_true,beq_iff_eq] at h1
   exact h1
 ·rintro h ⟨i,hi,h2⟩
  rw[List.mem_range] at hi
  have h1:=h i _ (List.getElem?_eq_getElem hi)
  simp only[sP,List.getElem?_eq_getElem hi,h1.1,h1.2,beq_self_eq_true,Bool.and_self,Bool.not_true] at h2
  cases h2
theorem Lh (c:Contract)(hc:ga c):lY c 0=some (bif jp c then .inr () else .inl false):=by
 have hl:c.Clauses.length≤1048576:=hc.2.1
 have h:=BD (a:=List.range c.Clauses.length) (q:=fun i=>!sP c i) (y0:=(Sum.inl false:Bool⊕Unit)) (y1:=.inr ()) (L:=fun i=>lY c (i:Int))
  (fun i x hx=>by
   obtain⟨hi,hx'⟩:=List.getElem?_eq_some_iff.1 hx
   rw[List.getElem_range] at hx'
   subst hx'
   rw[List.length_range] at hi
   have he:=List.getElem?_eq_getElem hi
   have hg:aC c.Clauses (i:Int)=some c.Clauses[i]:=by rw[b8,he]
   show lY c (i:Int)=_
   rw[Em,lr,bX,decide_eq_true hi,cond_true,hg,Option.bind_some,HF c _ hl,Option.bind_some,MY c _ _ hg (hc.2.2 _ (List.getElem_mem hi)) hl,cV (by omega)]
   simp only[sP,he,bne]
   cases (jZ c.Clauses c.Clauses[i].Id==(i:Int))<;>cases kC c (i:Int) c.Clauses[i]<;>rfl)
  (by
   rw[List.length_range]
   show lY c (c.Clauses.length:Int)=_
   rw[Em,lr,bX,decide_eq_false (Nat.lt_irrefl _),cond_false])
 rw[show lY c 0=_ from h]
 unfold jp
 cases (List.range c.Clauses.length).any fun i=>!sP c i<;>rfl
theorem KI (c:Contract)(hc:ga c):nJ c 0=some (bif jp c then .inr () else .inl false):=by
 have hl:c.Clauses.length≤1048576:=hc.2.1
 have h:=BD (a:=List.range c.Clauses.length) (q:=fun i=>!sP c i) (y0:=(Sum.inl false:Bool⊕Unit)) (y1:=.inr ()) (L:=fun i=>nJ c (i:Int))
  (fun i x hx=>by
   obtain⟨hi,hx'⟩:=List.getElem?_eq_some_iff.1 hx
   rw[List.getElem_range] at hx'
   subst hx'
   rw[List.length_range] at hi
   have he:=List.getElem?_eq_getElem hi
   have hg:aC c.Clauses (i:Int)=some c.Clauses[i]:=by rw[b8,he]
   show nJ c (i:Int)=_
   rw[G2,mO,bX,decide_eq_true hi,cond_true,MP c _ _ hg (hc.2.2 _ (List.getElem_mem hi)) hl,Option.bind_some,cV (by omega)]
   simp only[sP,he])
  (by
   rw[List.length_range]
   show nJ c (c.Clauses.length:Int)=_
   rw[G2,mO,bX,decide_eq_false (Nat.lt_irrefl _),cond_false])
 rw[show nJ c 0=_ from h]
 unfold jp
 cases (List.range c.Clauses.length).any fun i=>!sP c i<;>rfl
def jM (cs:List Clause):List ae:=cs.flatMap fun e=>e.Action::ku e.When
theorem Ko {c:Contract}{i:Int}{e:Clause}(h:kC c i e=true):pY e.When=true:=by
 simp only[kC,Bool.and_eq_true] at h
 exact h.2.2.2.2.2.2.1
theorem sL (cs:List Clause)(i:Nat)(h:i<cs.length):jM (cs.take (i+1))=jM (cs.take i)++(cs[i].Action::ku cs[i].When):=by
 unfold jM
 rw[List.take_add_one,List.getElem?_eq_getElem h,List.flatMap_append]
 simp
theorem KR (c:Contract)(hc:ga c)(h12:c.Clauses.length≤12)(hv:jp c=true):∃r,uD c=some r∧J1 c=some r∧r.Pairwise StrL.Lt∧(∀x,x∈r↔x∈jM c.Clauses)∧r.length≤1000:=by
 have hcond:∀i (hi:i<c.Clauses.length),f7 c.Clauses[i].When=true∧bM c.Clauses[i].When≤15:=fun i hi=>by
  have h1:=Ko (wS.1 hv i _ (List.getElem?_eq_getElem hi)).2
  unfold pY at h1
  rw[Bool.and_eq_true,decide_eq_true_iff] at h1
  exact h1
 have hs:∃r,uD c=some r∧r.Pairwise StrL.Lt∧(∀x,x∈r↔x∈jM c.Clauses)∧r.length≤16*c.Clauses.length:=by
  obtain⟨y,⟨r,rfl,hr⟩,h2⟩:=nY (L:=fun i (s:List ae)=>np c ((i:Int),s)) c.Clauses.length
   (fun i s=>s.Pairwise StrL.Lt∧(∀x,x∈s↔x∈jM (c.Clauses.take i))∧s.length≤16*i)
   (fun y=>∃r,y=.inr r∧r.Pairwise StrL.Lt∧(∀x,x∈r↔x∈jM c.Clauses)∧r.length≤16*c.Clauses.length) (s:=[])
   (by
    rintro i s hi ⟨j1,j2,j3⟩
    have he:=List.getElem?_eq_getElem hi
    obtain⟨f1,f2⟩:=hcond i hi
    obtain⟨r1,e1,p1,m1,l1⟩:=StrL.put_val s c.Clauses[i].Action (by omega) j1
    obtain⟨r2,e2,p2,m2,l2⟩:=Ps _ f1 r1 (by omega) p1
    refine .inl ⟨r2,⟨p2,fun x=>?_,by omega⟩,?_⟩
    ·rw[m2,m1,j2,sL _ _ hi,List.mem_append,List.mem_cons,or_assoc]
    ·show np c ((i:Int),s)=_
     rw[Ep,ls]
     simp only[bX,decide_eq_true hi,cond_true,b8,he,Option.bind_some,e1,e2]
     rw[cV (by omega)])
   (by
    rintro s ⟨j1,j2,j3⟩
    rw[List.take_length] at j2
    refine⟨.inr s,⟨s,rfl,j1,j2,j3⟩,?_⟩
    show np c ((c.Clauses.length:Int),s)=_
    rw[Ep,ls]
    simp only[bX,decide_eq_false (Nat.lt_irrefl _),cond_false]) ⟨List.Pairwise.nil,fun x=>by simp[jM],by simp⟩
  refine⟨r,?_,hr⟩
  unfold uD
  rw[show np c (0,[])=some (.inr r) from h2]
  rfl
 obtain⟨r,e,p,m,l⟩:=hs
 refine⟨r,e,?_,p,m,by omega⟩
 obtain⟨y,h1,h2⟩:=nY (L:=fun i (s:List ae)=>pA c ((i:Int),s)) c.Clauses.length
  (fun i s=>s=jM (c.Clauses.take i)∧s.length≤16*i) (fun y=>y=.inr (jM c.Clauses)∧(jM c.Clauses).length≤16*c.Clauses.length) (s:=[])
  (by
   rintro i s hi ⟨j1,j2⟩
   have he:=List.getElem?_eq_getElem hi
   obtain⟨f1,f2⟩:=hcond i hi
   have hlen:=Fs c.Clauses[i].When
   refine .inl ⟨jM (c.Clauses.take (i+1)),⟨rfl,?_⟩,?_⟩
   ·rw[sL _ _ hi,←j1,List.length_append,List.length_cons];omega
   ·show pA c ((i:Int),s)=_
    rw[G7,mQ]
    simp only[bX,decide_eq_true hi,cond_true,b8,he,Option.bind_some]
    rw[oQ (by omega) (by omega),Option.bind_some,Pc _ _ (by rw[List.length_append,List.length_singleton];omega),Option.bind_some,cV (by omega),sL _ _ hi,←j1,List.append_assoc]
    try rfl)
  (by
   rintro s ⟨j1,j2⟩
   rw[List.take_length] at j1
   refine⟨_,⟨rfl,by rw[←j1];exact j2⟩,?_⟩
   show pA c ((c.Clauses.length:Int),s)=_
   rw[G7,mQ]
   simp only[bX,decide_eq_false (Nat.lt_irrefl _),cond_false]
   rw[j1]) ⟨by simp[jM],by simp⟩
 unfold J1
 rw[show pA c (0,[])=some y from h2,h1.1,fW,XL _ r (by omega) p m]
 rfl
noncomputable def qV (c:Contract):Bool:=(gW (len c.Clauses) 1 12&&qh c.Parties)&&(jp c&&(match uD c with | some r=>decide (len r≤16) | none=>false))
theorem HP (c:Contract)(hc:ga c):Bn c=some (qV c):=by
 unfold Bn qV
 have hp:=Wb c.Parties c.Clauses hc.1
 rw[ym,show wx c=_ from hp,Lh c hc,Option.bind_some]
 cases h1:gW (len c.Clauses) 1 12 with | false=>rfl | true=>?_
 cases qh c.Parties with | false=>rfl | true=>?_
 cases h2:jp c with | false=>rfl | true=>?_
 rw[ua] at h1
 obtain⟨r,e,_⟩:=KR c hc (by simp only[len] at h1;omega) h2
 rw[e]
 rfl
theorem HJ (c:Contract)(hc:ga c):JZ c=some (qV c):=by
 unfold JZ qV
 rw[VN c.Parties hc.1,KI c hc,Option.bind_some,tZ]
 cases h1:gW (len c.Clauses) 1 12 with | false=>cases qh c.Parties<;>rfl | true=>?_
 cases qh c.Parties with | false=>rfl | true=>?_
 cases h2:jp c with | false=>rfl | true=>?_
 rw[ua] at h1
 obtain⟨r,e,e2,_⟩:=KR c hc (by simp only[len] at h1;omega) h2
 rw[e,e2]
 rfl
theorem Kq {c:Contract}(h:qV c=true):1≤c.Clauses.length∧c.Clauses.length≤12∧qh c.Parties=true∧∀(i:Nat) e,c.Clauses[i]?=some e→jZ c.Clauses e.Id=(i:Int)∧kC c (i:Int) e=true:=by
 simp only[qV,Bool.and_eq_true,ua] at h
 obtain⟨⟨⟨h1,h2⟩,h3⟩,h4,_⟩:=h
 simp only[len] at h1 h2
 exact⟨by omega,by omega,h3,wS.1 h4⟩
def oW (a b:Event):Int:=
 if a.Day=b.Day then (if a.Party=b.Party then (if Op.bytesLess a.Action b.Action=true then -1 else if a.Action=b.Action then (if a.Amount<b.Amount then -1 else if b.Amount<a.Amount then 1 else 0) else 1) else if a.Party<b.Party then -1 else 1) else if a.Day<b.Day then -1 else 1
theorem Xe (x y:Int):BZ x y=some (if x<y then -1 else if y<x then 1 else 0):=by
 simp only[BZ,JD,Option.bind_some,bne_self_eq_false,cond_false]
 by_cases h:x<y
 ·simp[h]
 ·by_cases h':y<x<;>simp[h,h']
theorem Xg (x y:ae):IX x y=some (if Op.bytesLess x y then -1 else if x=y then 0 else 1):=by
 simp only[IX,JX,Option.bind_some,beq_self_eq_true,Bool.not_true,cond_false]
 cases h:Op.bytesLess x y
 ·by_cases h':x=y<;>simp[h',qA]
 ·simp
theorem Ff (xs : List Int)(h : xs.length < 9223372036854775807) : ∀ (k i : Nat),i + k=xs.length→vR xs (i : Int)=some (match (xs.drop i).find? (· != 0) with | some y=>.inl y | none=>.inr ())
  | 0,i,hi=>by
    rw [GV,mM,bX]
    simp [show ¬ i < xs.length by omega,List.drop_eq_nil_of_le (show xs.length ≤ i by omega)]
  | k + 1,i,hi=>by
    have hlt : i < xs.length:=by omega
    rw [GV,mM,bX,b8,List.getElem?_eq_getElem hlt,cV (by omega),Ff xs h k (i + 1) (by omega),List.drop_eq_getElem_cons hlt,List.find?_cons]
    cases hx : (xs[i] != 0) <;> simp [hlt,hx]
theorem MK (a b c d:Int):Je [a,b,c,d]=some (if a≠0 then a else if b≠0 then b else if c≠0 then c else d):=by
 have:=Ff [a,b,c,d] (by simp) 4 0 rfl
 unfold Je
 rw[show (0:Int)=((0:Nat):Int) from rfl,this]
 by_cases ha:a=0<;>by_cases hb:b=0<;>by_cases hc:c=0<;>by_cases hd:d=0<;>simp[ha,hb,hc,hd]
theorem VM (a b:Event):nq a b=some (oW a b):=by
 simp only[nq,Xe,Xg,Option.bind_some,MK,oW]
 by_cases h1:a.Day=b.Day
 ·by_cases h2:a.Party=b.Party
  ·cases h3:Op.bytesLess a.Action b.Action
   ·by_cases h4:a.Action=b.Action<;>simp[h1,h2,h3,h4]
   ·simp[h1,h2,h3]
  ·by_cases h5:a.Party<b.Party
   ·simp[h1,h2,h5]
   ·simp[h1,h2,h5,show b.Party<a.Party by omega]
 ·by_cases h5:a.Day<b.Day
  ·simp[h1,h5]
  ·simp[h1,h5,show b.Day<a.Day by omega]
theorem Wa (a b:Event):Br a b=some (oW a b):=by
 simp only[Br,oW,NL,qA]
 by_cases h1:a.Day=b.Day
 ·by_cases h2:a.Party=b.Party
  ·cases h3:Op.bytesLess a.Action b.Action
   ·by_cases h4:a.Action=b.Action
    ·by_cases h5:a.Amount<b.Amount
     ·simp[h1,h2,h4,h5]
     ·by_cases h6:b.Amount<a.Amount<;>simp[h1,h2,h4,h5,h6]
    ·simp[h1,h2,h4]
   ·simp[h1,h2]
  ·by_cases h5:a.Party<b.Party
   ·simp[h1,h2,h5]
   ·simp[h1,h2,h5,show b.Party<a.Party by omega]
 ·by_cases h5:a.Day<b.Day
  ·simp[h1,h5]
  ·simp[h1,h5,show b.Day<a.Day by omega]
theorem SA (a b:Event):oW b a=- oW a b:=by
 unfold oW
 have ht:=uW a.Action b.Action
 by_cases h1:a.Day=b.Day
 ·by_cases h2:a.Party=b.Party
  ·rw[if_pos h1.symm,if_pos h2.symm,if_pos h1,if_pos h2,←ht]
   cases h3:Op.bytesLess a.Action b.Action
   ·by_cases h4:a.Action=b.Action
    ·simp only[h4,beq_self_eq_true,Bool.or_true,Bool.not_true,Bool.false_eq_true,if_false,if_true]
     split<;>split<;>first | rfl | omega
    ·have h5:(a.Action==b.Action)=false:=by simpa using h4
     simp[h4,h5,fun h:b.Action=a.Action=>h4 h.symm]
   ·by_cases h4:a.Action=b.Action
    ·have h6:=uW b.Action a.Action
     rw[h4] at h3 h6
     rw[h3] at h6
     simp at h6
    ·simp only[Bool.true_or,Bool.not_true,Bool.false_eq_true,if_false,if_true,if_neg (fun h:b.Action=a.Action=>h4 h.symm)]
     rfl
  ·rw[if_pos h1.symm,if_neg (fun h=>h2 h.symm),if_pos h1,if_neg h2]
   split<;>split<;>first | rfl | omega
 ·rw[if_neg (fun h=>h1 h.symm),if_neg h1]
  split<;>split<;>first | rfl | omega
open Go.Sort
instance:Inhabited Event:=⟨⟨0,0,[],0⟩⟩
def eO (x y:Event):Bool:=decide (oW x y<0)
theorem gA {d:Array Event}{n:Nat}(h:n<d.size):aC d.toList (n:Int)=some d[n]! := by
 rw[b8]
 simp[h]
theorem sA {d:Array Event}{i j:Nat}:aK (aK d.toList (i:Int) d[j]!) (j:Int) d[i]! = (swp d i j).toList:=by
 rw[kj,kj]
 unfold swp
 simp
theorem gSb {d:Array Event}{j:Nat}(h:j<d.size){β:Type}{I:Int}{x:Event}{k:Option β}:(aC (aK d.toList I x) (j:Int)).bind (fun _=>k)=k:=by
 rw[b8]
 have:j<(aK d.toList I x).length:=by unfold aK;simpa using h
 rw[List.getElem?_eq_getElem this]
 rfl
theorem Vs {d d':Array Event}(h:d'.size=d.size):Nat.beq d'.toList.length d.toList.length=true:=by
 rw[Array.length_toList,Array.length_toList,h,Nat.beq_refl]
theorem mJ (a:Nat):∀(j:Nat) (d:Array Event),(insInner eO a j d).size=d.size
 | 0,d=>rfl
 | j+1,d=>by
  unfold insInner
  split
  ·rw[mJ,size_swp]
  ·rfl
theorem ST (D:List Event)(A B:Int)(a:Nat)(X:Int×Int×Int×List Event)(hX:X.1=(a:Int)):∀(j:Nat) (d:Array Event),j<d.size→d.size≤1048576→tx D A B () X ((j:Int),d.toList)=some (.inr (insInner eO a j d).toList)
 | 0,d,hj,hs=>by
  rw[Dt,ld]
  rw[decide_eq_false (show ¬((0:Nat):Int)>X.1 by omega),cond_false,gL,cond_false]
  rfl
 | j+1,d,hj,hs=>by
  have w:ac (((j+1:Nat):Int) - 1)=(j:Int):=by rw[dV (by omega) (by omega)];omega
  rw[Dt,ld,insInner]
  simp only[w,gA hj,gA (show j<d.size by omega),Option.bind_some,VM,gSb (show j<d.size by omega),sA]
  by_cases h1:j+1>a
  ·rw[decide_eq_true (show ((j+1:Nat):Int)>X.1 by omega),decide_eq_true h1,cond_true,gL,Bool.true_and]
   show (bif eO d[j+1]! d[j]! then _ else _)=_
   cases h2:eO d[j+1]! d[j]! with
   | true=>rw[cond_true,if_pos rfl];exact ST D A B a X hX j _ (by rw[size_swp];omega) (by rw[size_swp];exact hs)
   | false=>rfl
  ·rw[decide_eq_false (show ¬((j+1:Nat):Int)>X.1 by omega),decide_eq_false h1,cond_false,gL,cond_false]
   rfl
theorem vr (a b:Nat):∀(n i:Nat) (d:Array Event),b - i=n→(insOuter eO a b i d).size=d.size
 | 0,i,d,h=>by rw[insOuter,if_neg (by omega)]
 | n+1,i,d,h=>by rw[insOuter,if_pos (by omega),vr a b n (i+1) _ (by omega),mJ]
theorem SS (D:List Event)(A B:Int)(a b:Nat):∀(n i:Nat) (d:Array Event),b - i=n→b≤d.size→d.size≤1048576→tw D A B () ((a:Int),(b:Int),(i:Int),d.toList)=some (.inr (insOuter eO a b i d).toList)
 | 0,i,d,h,hb,hs=>by
  rw[Ds,lc,insOuter,if_neg (by omega)]
  simp only[decide_eq_false (show ¬(i:Int)<(b:Int) by omega),cond_false]
 | n+1,i,d,h,hb,hs=>by
  rw[Ds,lc,insOuter,if_pos (by omega)]
  simp only[decide_eq_true (show (i:Int)<(b:Int) by omega),cond_true]
  rw[ST D A B a _ rfl i d (by omega) hs,gL,cV (by omega)]
  exact SS D A B a b n (i+1) _ (by omega) (by rw[mJ];exact hb) (by rw[mJ];exact hs)
theorem Yc (d:Array Event)(a b:Nat)(hb:b≤d.size)(ha:a≤b)(hs:d.size≤1048576):AN d.toList (a:Int) (b:Int) ()=some (insertionSort eO d a b).toList:=by
 unfold AN insertionSort
 rw[cV (by omega),SS d.toList a b a b (b - (a+1)) (a+1) d rfl hb hs,fW,Vs (vr a b _ _ _ rfl),cond_true]
theorem Te (h:SWO eO)(d:Array Event)(a b limit:Nat){R:Array Event}(hz:R.size=d.size)(e:oK (aP nH) d.toList (a:Int) (b:Int) (limit:Int) () ((a:Int),(b:Int),(limit:Int),true,true,d.toList)=some (.inl R.toList)) :
  aP nH (d.toList,(a:Int),(b:Int),(limit:Int),())=some R.toList:=by
 have:=Xn d.toList (a:Int) (b:Int) (limit:Int) ()
 unfold Jy at this
 rw[this]
 unfold tA
 rw[e,Ss]
theorem aau (h:SWO eO)(a b limit:Nat)(wb wp:Bool)(d:Array Event)(D:List Event)(A B Lm:Int)(hn:b - a≤12)(hab:a≤b)(hb:b≤d.size)(hs:d.size≤1048576)(hD:D.length=d.size) :
  ∃R:Array Event,oK (aP nH) D A B Lm () ((a:Int),(b:Int),(limit:Int),wb,wp,d.toList)=some (.inl R.toList)∧PermIn a b d R∧SortedIn eO a b R:=by
 have hi:=insertionSort_holds (lt:=eO) h d a b hab hb
 refine⟨insertionSort eO d a b,?_,hi⟩
 rw[Ok,lg]
 simp only[show ac ((b:Int) - (a:Int))=((b - a:Nat):Int) from by rw[dV (by omega) (by omega)];omega,decide_eq_true (show ((b - a:Nat):Int)≤12 by omega),cond_true]
 rw[Yc d a b hb hab hs,Option.bind_some,Vs hi.1.1,cond_true,show Nat.beq (insertionSort eO d a b).toList.length D.length=true from by rw[hD,Array.length_toList,hi.1.1,Nat.beq_refl],cond_true]
theorem zo {n k:Nat}(h:2 ^ k≤n):bitsLen n=bitsLen (n / 2 ^ k)+k:=by
 have h1:∀m,bitsLen n≤m+k↔bitsLen (n / 2 ^ k)≤m:=by
  intro m
  rw[bitsLen_le_iff,bitsLen_le_iff,Nat.div_lt_iff_lt_mul (Nat.two_pow_pos k),Nat.pow_add]
 have h2:k≤bitsLen n:=by
  rcases Nat.lt_or_ge (bitsLen n) k with h3 | h3
  ·have:=(bitsLen_le_iff n (k - 1)).1 (by omega)
   have:2 ^ (k - 1)≤2 ^ k:=Nat.pow_le_pow_right (by decide) (by omega)
   omega
  ·exact h3
 have h4:=(h1 (bitsLen n - k)).1 (by omega)
 have h5:=(h1 (bitsLen (n / 2 ^ k))).2 (Nat.le_refl _)
 omega
theorem N4 {n j:Nat}(hj:j≤64):gk .u64 (n:Int) (j:Int)=((n / 2 ^ j:Nat):Int):=by
 unfold gk
 rw[Int.toNat_natCast,show min j (IntKind.bits .u64)=j from Nat.min_eq_left hj,Int.fdiv_eq_ediv_of_nonneg _ (Int.le_of_lt (Int.pow_pos (by decide)))]
 simp
theorem Yw {n:Nat}(h:n<18446744073709551616):IntKind.u64.wrap (n:Int)=(n:Int):=by
 show (n:Int) % 18446744073709551616=n
 omega
theorem SX:∀n,n<256→([0,1,2,2,3,3,3,3,4,4,4,4,4,4,4,4,5,5,5,5,5,5,5,5,5,5,5,5,5,5,5,5,6,6,6,6,6,6,6,6,6,6,6,6,6,6,6,6,6,6,6,6,6,6,6,6,6,6,6,6,6,6,6,6,7,7,7,7,7,7,7,7,7,7,7,7,7,7,7,7,7,7,7,7,7,7,7,7,7,7,7,7,7,7,7,7,7,7,7,7,7,7,7,7,7,7,7,7,7,7,7,7,7,7,7,7,7,7,7,7,7,7,7,7,7,7,7,7,8,8,8,8,8,8,8,8,8,8,8,8,8,8,8,8,8,8,8,8,8,8,8,8,8,8,8,8,8,8,8,8,8,8,8,8,8,8,8,8,8,8,8,8,8,8,8,8,8,8,8,8,8,8,8,8,8,8,8,8,8,8,8,8,8,8,8,8,8,8,8,8,8,8,8,8,8,8,8,8,8,8,8,8,8,8,8,8,8,8,8,8,8,8,8,8,8,8,8,8,8,8,8,8,8,8,8,8,8,8,8,8,8,8,8,8,8,8,8,8,8,8,8,8,8,8,8,8]:ae)[n]?=some (UInt8.ofNat (bitsLen n)):=by decide +kernel
theorem MJ {n:Nat}(h:n<256):bitsLen n≤8:=(bitsLen_le_iff n 8).2 h
theorem Yh {n:Nat}(h:n<16777216):vP (n:Int)=some ((bitsLen n:Nat):Int):=by
 have tab:∀{m:Nat} (k:Int),m<256→0≤k→k≤100→((aC ([0,1,2,2,3,3,3,3,4,4,4,4,4,4,4,4,5,5,5,5,5,5,5,5,5,5,5,5,5,5,5,5,6,6,6,6,6,6,6,6,6,6,6,6,6,6,6,6,6,6,6,6,6,6,6,6,6,6,6,6,6,6,6,6,7,7,7,7,7,7,7,7,7,7,7,7,7,7,7,7,7,7,7,7,7,7,7,7,7,7,7,7,7,7,7,7,7,7,7,7,7,7,7,7,7,7,7,7,7,7,7,7,7,7,7,7,7,7,7,7,7,7,7,7,7,7,7,7,8,8,8,8,8,8,8,8,8,8,8,8,8,8,8,8,8,8,8,8,8,8,8,8,8,8,8,8,8,8,8,8,8,8,8,8,8,8,8,8,8,8,8,8,8,8,8,8,8,8,8,8,8,8,8,8,8,8,8,8,8,8,8,8,8,8,8,8,8,8,8,8,8,8,8,8,8,8,8,8,8,8,8,8,8,8,8,8,8,8,8,8,8,8,8,8,8,8,8,8,8,8,8,8,8,8,8,8,8,8,8,8,8,8,8,8,8,8,8,8,8,8,8,8,8,8,8,8]:ae) (IntKind.u8.wrap (m:Int))).bind fun c5=>some (ac (k+(IntKind.i64.wrap (c5.toNat:Int)))))=some (k+((bitsLen m:Nat):Int)):=by
  intro m k hm h0 h1
  have hb:=MJ hm
  have e:IntKind.u8.wrap (m:Int)=(m:Int):=by
   show (m:Int) % 256=m
   omega
  have e2:(UInt8.ofNat (bitsLen m)).toNat=bitsLen m:=by
   rw[UInt8.toNat_ofNat']
   omega
  rw[e,b8,SX m hm,Option.bind_some,e2,show IntKind.i64.wrap ((bitsLen m:Nat):Int)=((bitsLen m:Nat):Int) from dV (by omega) (by omega),dV (by omega) (by omega)]
 unfold vP FV
 simp only[iu,decide_eq_false (show ¬(n:Int)≥4294967296 by omega),cond_false]
 by_cases h2:n<65536
 ·simp only[decide_eq_false (show ¬(n:Int)≥65536 by omega),cond_false]
  by_cases h3:n<256
  ·simp only[decide_eq_false (show ¬(n:Int)≥256 by omega),cond_false]
   rw[tab 0 h3 (by decide) (by decide),Option.bind_some]
   simp
  ·simp only[decide_eq_true (show (n:Int)≥256 by omega),cond_true]
   rw[show gk .u64 (n:Int) 8=((n / 256:Nat):Int) from N4 (j:=8) (by decide),show ac (0+8)=8 from by decide,tab 8 (by omega) (by decide) (by decide),Option.bind_some,zo (n:=n) (k:=8) (by omega)]
   congr 1
   show (8:Int)+((bitsLen (n / 256):Nat):Int)=((bitsLen (n / 256)+8:Nat):Int)
   omega
 ·simp only[decide_eq_true (show (n:Int)≥65536 by omega),cond_true]
  rw[show gk .u64 (n:Int) 16=((n / 65536:Nat):Int) from N4 (j:=16) (by decide),show ac (0+16)=16 from by decide]
  simp only[decide_eq_false (show ¬((n / 65536:Nat):Int)≥256 by omega),cond_false]
  rw[tab 16 (by omega) (by decide) (by decide),Option.bind_some,zo (n:=n) (k:=16) (by omega)]
  congr 1
  show (16:Int)+((bitsLen (n / 65536):Nat):Int)=((bitsLen (n / 65536)+16:Nat):Int)
  omega
theorem VJ (h:SWO eO)(d:Array Event)(hs:d.size≤12):∃R:Array Event,vU d.toList ()=some R.toList∧PermIn 0 d.size d R∧SortedIn eO 0 d.size R:=by
 obtain⟨R,e,r1,r2⟩:=aau h 0 d.size (bitsLen d.size) true true d d.toList 0 (d.size:Int) ((bitsLen d.size:Nat):Int) (by omega) (by omega) (Nat.le_refl _) (by omega) Array.length_toList
 refine⟨R,?_,r1,r2⟩
 unfold vU Jy
 rw[show len d.toList=((d.size:Nat):Int) from by simp[len],Yw (by omega),Yh (by omega),Option.bind_some,show (0:Int)=((0:Nat):Int) from rfl,Te h d 0 d.size (bitsLen d.size) r1.1 e,Option.bind_some,Vs r1.1,cond_true,cond_true]
theorem He:∀(a:ae),Op.bytesLess a a=false
 | []=>rfl
 | a::x=>by
  have h:¬a<a:=fun h'=>by have:=UInt8.lt_iff_toNat_lt.1 h';omega
  simp[Op.bytesLess,h,He x]
theorem Kl:∀(a b c:ae),Op.bytesLess a b=true→Op.bytesLess b c=true→Op.bytesLess a c=true
 | _,[],_,h,_=>by simp[Op.bytesLess] at h
 | _,_::_,[],_,h=>by simp[Op.bytesLess] at h
 | [],_::_,_::_,_,_=>rfl
 | a::x,b::y,c::z,h1,h2=>by
  simp only[Op.bytesLess,Bool.or_eq_true,decide_eq_true_eq,Bool.and_eq_true,beq_iff_eq] at h1 h2 ⊢
  rcases h1 with h1 | ⟨rfl,h1⟩<;>rcases h2 with h2 | ⟨rfl,h2⟩
  ·exact .inl (UInt8.lt_iff_toNat_lt.2 (by have:=UInt8.lt_iff_toNat_lt.1 h1;have:=UInt8.lt_iff_toNat_lt.1 h2;omega))
  ·exact .inl h1
  ·exact .inl h2
  ·exact .inr ⟨rfl,Kl x y z h1 h2⟩
theorem NQ {x y:Event}:eO x y=true↔x.Day<y.Day∨(x.Day=y.Day∧(x.Party<y.Party∨(x.Party=y.Party∧(Op.bytesLess x.Action y.Action=true∨(x.Action=y.Action∧x.Amount<y.Amount))))):=by
 unfold eO oW
 rw[decide_eq_true_eq]
 by_cases h1:x.Day=y.Day
 ·rw[if_pos h1]
  by_cases h2:x.Party=y.Party
  ·rw[if_pos h2]
   cases h3:Op.bytesLess x.Action y.Action with
   | true=>simp[h1,h2]
   | false=>
    rw[if_neg (by simp)]
    by_cases h4:x.Action=y.Action
    ·rw[if_pos h4]
     by_cases h5:x.Amount<y.Amount
     ·simp[h1,h2,h4,h5]
     ·rw[if_neg h5]
      split<;>simp[h1,h2,h4,h5]
    ·rw[if_neg h4]
     simp[h1,h2,h4]
  ·rw[if_neg h2]
   by_cases h5:x.Party<y.Party
   ·simp[h1,h5]
   ·rw[if_neg h5]
    simp[h1,h2,h5]
 ·rw[if_neg h1]
  by_cases h5:x.Day<y.Day
  ·simp[h5]
  ·rw[if_neg h5]
   simp[h1,h5]
theorem SB {x y:Event}(h:oW x y=0):x=y:=by
 unfold oW at h
 by_cases h1:x.Day=y.Day
 ·rw[if_pos h1] at h
  by_cases h2:x.Party=y.Party
  ·rw[if_pos h2] at h
   cases h3:Op.bytesLess x.Action y.Action with
   | true=>rw[h3,if_pos rfl] at h;exact absurd h (by decide)
   | false=>
    rw[h3,if_neg (by simp)] at h
    by_cases h4:x.Action=y.Action
    ·rw[if_pos h4] at h
     have h5:x.Amount=y.Amount:=by
      by_cases h6:x.Amount<y.Amount
      ·rw[if_pos h6] at h;exact absurd h (by decide)
      ·rw[if_neg h6] at h
       by_cases h7:y.Amount<x.Amount
       ·rw[if_pos h7] at h;exact absurd h (by decide)
       ·omega
     cases x;cases y;simp_all
    ·rw[if_neg h4] at h;exact absurd h (by decide)
  ·rw[if_neg h2] at h
   split at h<;>exact absurd h (by decide)
 ·rw[if_neg h1] at h
  split at h<;>exact absurd h (by decide)
theorem GD {x y:Event}(h:eO x y=false):eO y x=true∨x=y:=by
 unfold eO at h ⊢
 rw[decide_eq_false_iff_not] at h
 rw[decide_eq_true_eq,SA x y]
 by_cases h0:oW x y=0
 ·exact .inr (SB h0)
 ·exact .inl (by omega)
theorem xe {x y z:Event}(h1:eO x y=true)(h2:eO y z=true):eO x z=true:=by
 rw[NQ] at *
 rcases h1 with h1 | ⟨e1,h1⟩<;>rcases h2 with h2 | ⟨e2,h2⟩
 ·exact .inl (by omega)
 ·exact .inl (by omega)
 ·exact .inl (by omega)
 refine .inr ⟨by omega,?_⟩
 rcases h1 with h1 | ⟨f1,h1⟩<;>rcases h2 with h2 | ⟨f2,h2⟩
 ·exact .inl (by omega)
 ·exact .inl (by omega)
 ·exact .inl (by omega)
 refine .inr ⟨by omega,?_⟩
 rcases h1 with h1 | ⟨g1,h1⟩<;>rcases h2 with h2 | ⟨g2,h2⟩
 ·exact .inl (Kl _ _ _ h1 h2)
 ·exact .inl (by rw[←g2];exact h1)
 ·exact .inl (by rw[g1];exact h2)
 ·exact .inr ⟨g1.trans g2,by omega⟩
theorem Fp (x:Event):eO x x=false:=by
 cases h:eO x x with
 | false=>rfl
 | true=>
  rw[NQ] at h
  simp[He] at h
theorem Ll:SWO eO where
 irrefl:=Fp
 trans:=fun _ _ _=>xe
 ntrans:=fun x y z h1 h2=>by
  cases h:eO x z with
  | false=>rfl
  | true=>
   rcases GD h1 with h3 | rfl
   ·rw[xe h3 h] at h2;cases h2
   ·rw[h] at h2;cases h2
theorem WW:∀x y,eO x y=false→eO y x=false→x=y:=fun x y h1 h2=>by
 rcases GD h1 with h | h
 ·rw[h] at h2;cases h2
 ·exact h
theorem W7 (a out:List Event)(i:Nat)(e:Event)(hx:a[i]?=some e)(hl:out.length≤1048576):∀(k:Nat),k≤out.length→∃m,m≤k∧qx a ((i:Int),out) (k:Int)=some (.inr (m:Int))∧(∀y,1≤m→out[m - 1]?=some y→eO e y=false)∧∀(j:Nat) y,m≤j→j<k→out[j]?=some y→eO e y=true
 | 0,hk=>by
  refine⟨0,Nat.le_refl _,?_,fun y h=>by omega,fun j y h1 h2=>by omega⟩
  rw[EC,lx]
  rfl
 | k+1,hk=>by
  have h1:=List.getElem?_eq_getElem (show k<out.length by omega)
  have w:ac (((k+1:Nat):Int) - 1)=(k:Int):=by rw[dV (by omega) (by omega)];omega
  rw[EC,lx]
  simp only[decide_eq_true (show ((k+1:Nat):Int)>0 by omega),cond_true,w,b8,hx,h1,Option.bind_some,Wa,gL]
  rw[show decide (oW e out[k]<0)=eO e out[k] from rfl]
  cases hq:eO e out[k] with
  | false=>
   refine⟨k+1,Nat.le_refl _,rfl,fun y _ hy=>?_,fun j y h1 h2=>by omega⟩
   rw[show k+1 - 1=k by omega,h1] at hy
   cases hy
   exact hq
  | true=>
   obtain⟨m,m1,m2,m3,m4⟩:=W7 a out i e hx hl k (by omega)
   refine⟨m,by omega,m2,m3,fun j y j1 j2 hy=>?_⟩
   by_cases hj:j=k
   ·subst hj;rw[h1] at hy;cases hy;exact hq
   ·exact m4 j y j1 (by omega) hy
theorem aam {out:List Event}{e:Event}{m:Nat}(hm:m≤out.length)(hs:out.Pairwise fun x y=>eO y x=false)(h1:∀y,1≤m→out[m - 1]?=some y→eO e y=false)(h2:∀(j:Nat) y,m≤j→j<out.length→out[j]?=some y→eO e y=true):(out.take m++[e]++out.drop m).Pairwise fun x y=>eO y x=false:=by
 have hsg:=List.pairwise_iff_getElem.1 hs
 have ht:∀x∈out.take m,eO e x=false:=by
  intro x hx
  obtain⟨j,hj,rfl⟩:=List.mem_iff_getElem.1 hx
  rw[List.length_take] at hj
  rw[List.getElem_take]
  have hq:=h1 out[m - 1] (by omega) (List.getElem?_eq_getElem (by omega))
  by_cases hjm:j=m - 1
  ·subst hjm;exact hq
  ·exact Ll.ntrans _ _ _ hq (hsg j (m - 1) (by omega) (by omega) (by omega))
 have hd:∀x∈out.drop m,eO x e=false:=by
  intro x hx
  obtain⟨j,hj,rfl⟩:=List.mem_iff_getElem.1 hx
  rw[List.length_drop] at hj
  rw[List.getElem_drop]
  have hq:=h2 (m+j) out[m+j] (by omega) (by omega) (List.getElem?_eq_getElem (by omega))
  exact Ll.asymm hq
 rw[List.pairwise_append,List.pairwise_append]
 refine⟨⟨hs.sublist (List.take_sublist _ _),List.pairwise_singleton _ _,fun x hx y hy=>?_⟩,hs.sublist (List.drop_sublist _ _),fun x hx y hy=>?_⟩
 ·rw[List.mem_singleton] at hy;subst hy;exact ht x hx
 ·rcases List.mem_append.1 hx with hx | hx
  ·have:=(List.pairwise_append.1 (by rw[List.take_append_drop];exact hs:(out.take m++out.drop m).Pairwise fun x y=>eO y x=false)).2.2
   exact this x hx y hy
  ·rw[List.mem_singleton] at hx;subst hx;exact hd y hy
theorem W6 (a:List Event)(ha:a.length≤1048576):∀(n i:Nat) (out:List Event),i+n=a.length→out.Perm (a.take i)→(out.Pairwise fun x y=>eO y x=false)→∃s,qw a ((i:Int),out)=some (.inr s)∧s.Perm a∧s.Pairwise fun x y=>eO y x=false
 | 0,i,out,hi,hp,hs=>by
  refine⟨out,?_,?_,hs⟩
  ·rw[EB,lw,bX,decide_eq_false (by omega),cond_false]
  ·rwa[List.take_of_length_le (by omega)] at hp
 | n+1,i,out,hi,hp,hs=>by
  have h1:i<a.length:=by omega
  have hx:=List.getElem?_eq_getElem h1
  have hl:out.length=i:=by rw[hp.length_eq,List.length_take];omega
  obtain⟨m,m1,m2,m3,m4⟩:=W7 a out i a[i] hx (by omega) out.length (Nat.le_refl _)
  have s1:gb out.length 0 (m:Int)=some ():=by unfold gb;rw[if_pos (by omega)]
  have s2:gb out.length (m:Int) (len out)=some ():=by unfold gb;rw[if_pos (by simp only[len];omega)]
  have p1:gF out (0+Int.toNat 0) (Int.toNat (m:Int) - Int.toNat 0)=some (out.take m):=by
   unfold gF
   simp only[Int.toNat_zero,Int.toNat_natCast,Nat.zero_add,Nat.sub_zero,List.drop_zero]
   rw[if_pos m1]
  have p2:gF out (0+Int.toNat (m:Int)) (Int.toNat (len out) - Int.toNat (m:Int))=some (out.drop m):=by
   unfold gF
   simp only[Int.toNat_natCast,Nat.zero_add,len]
   rw[if_pos (by omega),List.take_of_length_le (by rw[List.length_drop];omega)]
  have t1:(out.take m).length=m:=by rw[List.length_take];omega
  have t2:(out.drop m).length=out.length - m:=List.length_drop
  have a1:iy 40 ([]:List Event) (out.take m)=some (out.take m):=by unfold iy;rw[if_pos (by simp only[List.length_nil,lH,t1];omega)];rfl
  have a2:iy 40 (out.take m) [a[i]]=some (out.take m++[a[i]]):=oQ (by omega) (by omega)
  have a3:iy 40 (out.take m++[a[i]]) (out.drop m)=some (out.take m++[a[i]]++out.drop m):=by unfold iy;rw[if_pos (by simp only[List.length_append,List.length_cons,List.length_nil,lH,t1,t2];omega)]
  have hin:=aam m1 hs m3 m4
  have hpe:(out.take m++[a[i]]++out.drop m).Perm (a.take (i+1)):=by
   rw[List.take_add_one,hx]
   have q1:(out.take m++[a[i]]++out.drop m).Perm (out++[a[i]]):=by
    rw[List.append_assoc]
    refine ((List.perm_append_comm (l₁:=[a[i]]) (l₂:=out.drop m)).append_left _).trans ?_
    rw[←List.append_assoc,List.take_append_drop]
   exact q1.trans (hp.append_right _)
  rw[EB,lw,bX,decide_eq_true h1,cond_true]
  simp only[]
  rw[show qx a ((i:Int),out) (len out)=some (.inr (m:Int)) from m2,gL]
  simp only[s1,p1,a1,b8,hx,a2,s2,p2,a3,Option.bind_some,cV (show i<9223372036854775807 by omega)]
  exact W6 a ha n (i+1) _ (by omega) hpe hin
theorem NN (a:List Event)(ha:a.length≤1048576):∃s,wz a=some s∧s.Perm a∧s.Pairwise fun x y=>eO y x=false:=by
 obtain⟨s,h1,h2,h3⟩:=W6 a ha a.length 0 [] (by omega) (by simp) List.Pairwise.nil
 refine⟨s,?_,h2,h3⟩
 unfold wz
 rw[show qw a (0,[])=some (.inr s) from h1,fW]
theorem Xa (a s:List Event)(hp:s.Perm a)(hs:s.Pairwise fun x y=>eO y x=false):s=a.mergeSort (fun x y=>!eO y x):=by
 have hl:=hp.length_eq
 have:=sorted_unique_holds (lt:=eO) Ll WW a.toArray s.toArray ⟨by simpa using hl,fun i hi=>?_,?_⟩ ?_
 ·simpa using this
 ·rcases hi with hi | hi
  ·omega
  ·have h1:a.length≤i:=by simpa using hi
   simp[h1,hl]
 ·have ht:s.take a.length=s:=List.take_of_length_le (by omega)
  simpa[hl,ht] using hp
 ·intro i j _ hij hj
  have hj':j<a.length:=by simpa using hj
  have:=List.pairwise_iff_getElem.1 hs i j (by omega) (by omega) hij
  simpa[show i<s.length by omega,show j<s.length by omega] using this
theorem SR (a:List Event)(ha:a.length≤12):vU a ()=some (a.mergeSort (fun x y=>!eO y x)):=by
 obtain⟨R,e,r1,r2⟩:=VJ Ll a.toArray (by simpa using ha)
 have:=sorted_unique_holds (lt:=eO) Ll WW a.toArray R r1 r2
 rw[show a=a.toArray.toList from rfl] at *
 rw[e,this]
theorem Ts (a:List Event)(ha:a.length≤1048576):wz a=some (a.mergeSort (fun x y=>!eO y x)):=by
 obtain⟨s,h1,h2,h3⟩:=NN a ha
 rw[h1,Xa a s h2 h3]
namespace EvL
def W3 (a b:Event):Bool:=a.Day==b.Day&&(a.Party==b.Party&&(a.Action==b.Action&&(a.Amount==b.Amount&&true)))
theorem NE {a b:Event}:W3 a b=true↔a=b:=by
 obtain⟨a1,a2,a3,a4⟩:=a
 obtain⟨b1,b2,b3,b4⟩:=b
 simp[W3]
instance instE:DecidableEq Event:=fun a b=>decidable_of_iff (W3 a b=true) NE
theorem VF (a b:Event):(a.Day==b.Day&&(a.Party==b.Party&&(a.Action==b.Action&&(a.Amount==b.Amount&&true))))=(a==b):=by
 show W3 a b=_
 rw[Bool.eq_iff_iff,NE,beq_iff_eq]
def Lt (a b:Event):Prop:=eO a b=true
theorem Lt.irrefl {a:Event}(h:Lt a a):False:=by unfold Lt at h;rw[Fp] at h;cases h
theorem Lt.trans {a b c:Event}(h:Lt a b)(h2:Lt b c):Lt a c:=xe h h2
theorem Lt.asymm {a b:Event}(h:Lt a b)(h2:Lt b a):False:=(h.trans h2).irrefl
def Le (a b:Event):Prop:=¬Lt b a
theorem Le.lt_or {a b:Event}(h:Le a b):Lt a b∨a=b:=(GD (show eO b a=false by simpa[Le,Lt] using h)).imp id Eq.symm
theorem Le.le_lt {a b c:Event}(h:Le a b)(h2:Lt b c):Lt a c:=by
 rcases h.lt_or with h1 | rfl
 ·exact h1.trans h2
 ·exact h2
def d3 (a:List Event)(j:Nat):Bool:=match j with
 | 0=>true
 | j+1=>match a[j]?,a[j+1]? with
  | some x,some y=>y != x
  | _,_=>true
def dd (a:List Event):List Event:=iM (d3 a) a a.length
theorem oX {a:List Event}{k:Nat}(h:∀j x y,j+1<k→a[j]?=some x→a[j+1]?=some y→y≠x)(hn:k≤a.length):iM (d3 a) a k=a.take k:=by
 have e:∀n,n≤k→iM (d3 a) a n=a.take n:=by
  intro n
  induction n with
  | zero=>intro _;rfl
  | succ n ih=>
   intro hk
   have h1:n<a.length:=by omega
   have hx:=List.getElem?_eq_getElem h1
   rw[rc ?_ hx,ih (by omega),List.take_add_one,hx]
   ·rfl
   ·cases n with
    | zero=>rfl
    | succ n=>
     have h2:=List.getElem?_eq_getElem (show n<a.length by omega)
     simp only[d3,h2,hx]
     simpa using h n _ _ (by omega) h2 hx
 exact e k (Nat.le_refl k)
theorem tW {s z:List Event}{x j:Nat}(h1:x≤j)(h2:j<s.length):nX z (0+Int.toNat (x:Int)) (Int.toNat (len s) - Int.toNat (x:Int)) ((j:Int) - (x:Int))=z[j]?:=by
 unfold nX
 simp only[len,Int.toNat_natCast,Nat.zero_add]
 rw[if_pos (by omega),show x+((j:Int) - (x:Int)).toNat=j by omega]
theorem qU (s:List Event)(x:Nat)(hl:s.length≤1048576)(hx:x<s.length)(h0:iM (d3 s) s (x+1)=s.take x):∃(i:Nat) (z:List Event),ky s (x:Int) ((x:Int),1,s)=some (.inr ((i:Int),z))∧z.length=s.length∧i≤z.length∧z.take i=dd s:=by
 have hD:=NB (L:=fun q:Int×Int×List Event=>ky s (x:Int) (q.1,q.2.1 - (x:Int),q.2.2)) (keep:=d3 s) (a:=s) (i0:=x)
  (by
   intro i j z y hz hi hij hy hy2 hy3
   obtain⟨h1,_⟩:=List.getElem?_eq_some_iff.1 hy
   have h2:=List.getElem?_eq_getElem (show j - 1<s.length by omega)
   have h4:=List.getElem?_eq_getElem (show i<z.length by omega)
   show ky s (x:Int) ((i:Int),(j:Int) - (x:Int),z)=bif d3 s j then ky s (x:Int) (((i+1:Nat):Int),((j+1:Nat):Int) - (x:Int),z.set i y) else ky s (x:Int) ((i:Int),((j+1:Nat):Int) - (x:Int),z)
   have w1:ac ((j:Int) - (x:Int) - 1)=((j - 1:Nat):Int) - (x:Int):=by rw[dV (by omega) (by omega)];omega
   have w2:ac ((j:Int) - (x:Int)+1)=((j+1:Nat):Int) - (x:Int):=by rw[dV (by omega) (by omega)];omega
   have c1:decide ((j:Int) - (x:Int)<(((Int.toNat (len s) - Int.toNat (x:Int)):Nat):Int))=true:=decide_eq_true (by simp only[len,Int.toNat_natCast];omega)
   rw[C0,kY]
   simp only[c1,cond_true,w1,w2,tW (show x≤j by omega) h1,tW (show x≤j - 1 by omega) (show j - 1<s.length by omega),hy2,hy3,h2,Option.bind_some,b8,kj,h4,VF,cV (show i<9223372036854775807 by omega)]
   have hk:d3 s j=(y != s[j - 1]):=by
    cases j with
    | zero=>omega
    | succ j=>
     simp only[d3,hy,show j+1 - 1=j by omega] at h2 ⊢
     simp only[h2]
   rw[hk]
   show _=bif !(y==s[j - 1]) then _ else _
   cases y==s[j - 1]<;>rfl)
  (by
   intro i j z hz hi hij hj
   show ky s (x:Int) ((i:Int),(j:Int) - (x:Int),z)=_
   have c1:decide ((j:Int) - (x:Int)<(((Int.toNat (len s) - Int.toNat (x:Int)):Nat):Int))=false:=decide_eq_false (by simp only[len,Int.toNat_natCast];omega)
   rw[C0,kY]
   simp only[c1,cond_false])
  h0 hx
 simp only[show ((x+1:Nat):Int) - (x:Int)=1 by omega] at hD
 exact hD
theorem lC (s:List Event)(hl:s.length≤1048576):∀(n k:Nat),k+n=s.length→1≤k→(∀j x y,j+1<k→s[j]?=some x→s[j+1]?=some y→y≠x)→∃y,qo s (k:Int)=some y∧(y=.inl (dd s)∨y=.inr (dd s))
 | 0,k,hk,h1,h=>by
  refine⟨.inr s,?_,.inr ?_⟩
  ·rw[CZ,kX,bX,decide_eq_false (by omega),cond_false]
  ·unfold dd
   rw[oX (k:=s.length) (fun j x y hj=>h j x y (by omega)) (Nat.le_refl _),List.take_length]
 | n+1,k,hk,h1,h=>by
  have h2:k<s.length:=by omega
  have e1:=List.getElem?_eq_getElem h2
  have e2:=List.getElem?_eq_getElem (show k - 1<s.length by omega)
  have w1:ac ((k:Int) - 1)=((k - 1:Nat):Int):=by rw[dV (by omega) (by omega)];omega
  rw[CZ,kX,bX,decide_eq_true h2,cond_true,w1,b8,b8,e1,e2,Option.bind_some,Option.bind_some,VF,cV (by omega)]
  by_cases hq:s[k]=s[k - 1]
  ·rw[beq_iff_eq.2 hq,cond_true]
   have e3:gb s.length (k:Int) (len s)=some ():=by unfold gb;rw[if_pos (by simp only[len];omega)]
   have hno:d3 s k=false:=by
    cases k with
    | zero=>omega
    | succ k=>
     simp only[show k+1 - 1=k by omega] at e2 hq
     simp only[d3,e1,e2,hq,bne_self_eq_false]
   obtain⟨i,z,e,hz,hi,ht⟩:=qU s k hl h2 (by rw[uc hno,oX h (by omega)])
   rw[e3,Option.bind_some,e,gL]
   refine⟨.inl (dd s),?_,.inl rfl⟩
   rw[←ht]
   exact aad (c:=(Event.mk 0 0 [] 0)) (F:=fun p19=>some (Sum.inl p19)) hi
  ·rw[beq_eq_false_iff_ne.2 hq,cond_false]
   refine lC s hl n (k+1) (by omega) (by omega) fun j x y hj hx hy=>?_
   by_cases hj2:j+1<k
   ·exact h j x y hj2 hx hy
   ·obtain rfl:k=j+1:=by omega
    simp only[show j+1 - 1=j by omega] at e2 hq
    rw[e2] at hx
    rw[e1] at hy
    cases hx
    cases hy
    exact hq
theorem compact_val (s:List Event)(hl:s.length≤1048576):AC s=some (dd s):=by
 unfold AC
 by_cases h:len s<2
 ·rw[decide_eq_true h,cond_true]
  have h':s.length<2:=by simp only[len] at h;omega
  unfold dd
  rw[oX (k:=s.length) (fun j x y hj=>by omega) (Nat.le_refl _),List.take_length]
 ·rw[decide_eq_false h,cond_false]
  have h':¬s.length<2:=by simp only[len] at h;omega
  obtain⟨y,hy,hq⟩:=lC s hl (s.length - 1) 1 (by omega) (Nat.le_refl _) (fun j x y hj=>by omega)
  rw[show qo s 1=some y from hy]
  rcases hq with rfl | rfl<;>rfl
theorem pC {a:List Event}(hs:a.Pairwise Le):∀n,n≤a.length→(iM (d3 a) a n).Pairwise Lt∧∀x,x∈iM (d3 a) a n↔x∈a.take n
 | 0,_=>by
  have e:iM (d3 a) a 0=[]:=rfl
  rw[e]
  exact⟨List.Pairwise.nil,fun x=>by simp⟩
 | n+1,hn=>by
  obtain⟨h1,h2⟩:=pC hs n (by omega)
  have hlt:n<a.length:=by omega
  have hx:=List.getElem?_eq_getElem hlt
  have hle:∀y∈a.take n,Le y a[n]:=by
   intro y hy
   obtain⟨i,hi,rfl⟩:=List.mem_iff_getElem.1 hy
   rw[List.length_take] at hi
   rw[List.getElem_take]
   exact List.pairwise_iff_getElem.1 hs i n (by omega) hlt (by omega)
  cases hk:d3 a n with
  | true=>
   rw[rc hk hx]
   have hstrict:∀y∈a.take n,Lt y a[n]:=by
    intro y hy
    cases n with
    | zero=>simp at hy
    | succ j=>
     have h3:=List.getElem?_eq_getElem (show j<a.length by omega)
     have hne:a[j+1]≠a[j]:=by
      simp only[d3,h3,hx] at hk
      simpa using hk
     have hj:Le a[j] a[j+1]:=List.pairwise_iff_getElem.1 hs j (j+1) (by omega) hlt (by omega)
     obtain⟨i,hi,rfl⟩:=List.mem_iff_getElem.1 hy
     rw[List.length_take] at hi
     rw[List.getElem_take]
     have hlt2:Lt a[j] a[j+1]:=hj.lt_or.resolve_right fun e=>hne e.symm
     by_cases e:i=j
     ·subst e;exact hlt2
     ·have:=List.pairwise_iff_getElem.1 hs i j (by omega) (by omega) (by omega)
      exact this.le_lt hlt2
   refine⟨List.pairwise_append.2 ⟨h1,List.pairwise_singleton _ _,fun y hy z hz=>?_⟩,fun x=>?_⟩
   ·rw[List.mem_singleton] at hz
    subst hz
    exact hstrict y ((h2 y).1 hy)
   ·rw[List.take_add_one,hx,List.mem_append,List.mem_append,h2]
    rfl
  | false=>
   rw[uc hk]
   refine⟨h1,fun x=>?_⟩
   rw[h2,List.take_add_one,hx,List.mem_append]
   constructor
   ·exact .inl
   ·rintro (h | h)
    ·exact h
    ·have e:x=a[n]:=by simpa using h
     subst e
     cases n with
     | zero=>simp[d3] at hk
     | succ j=>
      have h3:=List.getElem?_eq_getElem (show j<a.length by omega)
      simp only[d3,h3,hx] at hk
      have e:a[j+1]=a[j]:=by simpa using hk
      rw[e]
      have:a[j]∈a.take (j+1):=by
       rw[List.mem_iff_getElem]
       exact⟨j,by rw[List.length_take];omega,by rw[List.getElem_take]⟩
      exact this
theorem dd_ok {a:List Event}(hs:a.Pairwise Le):(dd a).Pairwise Lt∧∀x,x∈dd a↔x∈a:=by
 have:=pC hs a.length (Nat.le_refl _)
 rw[List.take_length] at this
 exact this
theorem asc_uniq:∀{a b:List Event},a.Pairwise Lt→b.Pairwise Lt→(∀x,x∈a↔x∈b)→a=b
 | [],[],_,_,_=>rfl
 | [],y::b,_,_,h=>absurd ((h y).2 (by simp)) (by simp)
 | x::a,[],_,_,h=>absurd ((h x).1 (by simp)) (by simp)
 | x::a,y::b,ha,hb,h=>by
  rw[List.pairwise_cons] at ha hb
  have e:x=y:=by
   have h1:=(h x).1 (by simp)
   have h2:=(h y).2 (by simp)
   rw[List.mem_cons] at h1 h2
   rcases h1 with h1 | h1
   ·exact h1
   ·rcases h2 with h2 | h2
    ·exact h2.symm
    ·exact ((ha.1 y h2).asymm (hb.1 x h1)).elim
  subst e
  rw[asc_uniq ha.2 hb.2 fun z=>?_]
  constructor
  ·intro hz
   have h1:=(h z).1 (List.mem_cons_of_mem _ hz)
   rcases List.mem_cons.1 h1 with e | h1
   ·subst e;exact (ha.1 z hz).irrefl.elim
   ·exact h1
  ·intro hz
   have h1:=(h z).2 (List.mem_cons_of_mem _ hz)
   rcases List.mem_cons.1 h1 with e | h1
   ·subst e;exact (hb.1 z hz).irrefl.elim
   ·exact h1
end EvL
theorem vt (k0:Int):∀(n:Nat) (k:Int) (s:ae),k<((10 ^ n:Nat):Int)→k<9223372036854775808→s.length+n≤100→∃r,tj k0 (k,s)=some (.inr r)∧r.length≤100
 | 0,k,s,hk,hb,hs=>by
  rw[Ct,kU,decide_eq_false (show ¬k>0 by simp at hk;omega),cond_false]
  exact⟨_,rfl,by show s.length≤100;omega⟩
 | n+1,k,s,hk,hb,hs=>by
  rw[Ct,kU]
  by_cases h:k>0
  ·rw[decide_eq_true h,cond_true]
   unfold BE
   have h10:k.tdiv 10=k / 10:=Int.tdiv_eq_ediv_of_nonneg (by omega)
   rw[if_pos (by simp only[List.length_map,List.length_cons,List.length_nil];omega),Option.bind_some,h10,dV (by omega) (by omega)]
   refine vt k0 n (k / 10) _ ?_ (by omega) (by simp only[List.length_append,List.length_map,List.length_cons,List.length_nil];omega)
   rw[Nat.pow_succ] at hk
   omega
  ·rw[decide_eq_false h,cond_false]
   exact⟨_,rfl,by show s.length≤100;omega⟩
theorem HK (k:Int)(h:k≤4611686018427387904):∃r,mo k=some r:=by
 unfold mo
 by_cases h0:k≤0
 ·rw[decide_eq_true h0,cond_true]
  exact⟨_,rfl⟩
 ·rw[decide_eq_false h0,cond_false]
  obtain⟨r,hr,hl⟩:=vt k 19 k [] (by omega) (by omega) (by decide)
  rw[hr]
  show ∃r',(BE [109] r).bind (fun s5=>some s5)=some r'
  unfold BE
  rw[if_pos (by simp only[List.length_cons,List.length_nil];omega),Option.bind_some]
  exact⟨_,rfl⟩
noncomputable def oe (k:Int):ae:=(mo k).getD []
theorem iU {k:Int}(h:k≤4611686018427387904):mo k=some (oe k):=by
 obtain⟨r,hr⟩:=HK k h
 unfold oe
 rw[hr]
 rfl
noncomputable def gV (k:Int)(e:Event):Int×Event:=(k+4,⟨k,k+1,oe (k+2),k+3⟩)
theorem MQ (a:List Event)(ha:lQ rm a){k:Int}(h0:0≤k)(hM:(d9 gV k a).1≤4611686018427387904):zZ a k=some (d9 gV k a):=by
 have hl:=ha.1
 unfold zZ
 rw[KM (L:=tg a k) (g:=gV) (M:=4611686018427387904) (fun k x=>by show k≤k+4;omega) ?_ ?_ h0 hM (by omega)]
 ·show (bif Nat.beq (d9 gV k a).2.length a.length then some ((d9 gV k a).1,(d9 gV k a).2) else none)=_
  rw[pH,Nat.beq_refl]
  rfl
 ·intro k i xs e h0 h1 hi he
  have h1':k+4≤4611686018427387904:=h1
  obtain⟨hi',_⟩:=List.getElem?_eq_some_iff.1 he
  have w1:ac (k+1)=k+1:=dV (by omega) (by omega)
  have w2:ac (k+1+1)=k+2:=by rw[dV (by omega) (by omega)];omega
  have w3:ac (k+2+1)=k+3:=by rw[dV (by omega) (by omega)];omega
  have w4:ac (k+3+1)=k+4:=by rw[dV (by omega) (by omega)];omega
  rw[Cm,kS,bX,decide_eq_true hi',cond_true]
  simp only[iu,b8,kj,he,Option.bind_some,w1,w2,w3,w4,iU (show k+2≤4611686018427387904 by omega),List.getElem?_set_self,List.length_set,hi',List.set_set,cV (show i<9223372036854775807 by omega)]
  rfl
 ·intro k i xs hi
  rw[Cm,kS,bX,decide_eq_false (show ¬i<xs.length by omega),cond_false]
theorem VX (a:List Event)(ha:a.length≤1048576):1≤(d9 gV 1 a).1∧(d9 gV 1 a).1≤4611686018427387904:=by
 have h1:=od (g:=gV) (fun k x=>by show k≤k+4;omega) (xs:=a) (k:=1)
 have h2:=BM (g:=gV) (c:=4) (fun k x=>by show k+4≤k+(4:Nat);omega) (xs:=a) (k:=1)
 omega
noncomputable def wX (k:Int)(e:ae):Int×ae:=(k+1,oe k)
theorem KO (a:List ae)(ha:a.length≤1048576){k:Int}(h0:0≤k)(hM:k≤4000000000000000000):∃k' a',Ab a k=some (k',a')∧a'.length=a.length∧k≤k'∧k'≤k+1048576:=by
 have h1:=od (g:=wX) (fun k x=>by show k≤k+1;omega) (xs:=a) (k:=k)
 have h2:=BM (g:=wX) (c:=1) (fun k x=>by show k+1≤k+(1:Nat);omega) (xs:=a) (k:=k)
 refine⟨(d9 wX k a).1,(d9 wX k a).2,?_,pH,h1,by omega⟩
 unfold Ab
 rw[KM (L:=th a k) (g:=wX) (M:=4611686018427387904) (fun k x=>by show k≤k+1;omega) ?_ ?_ h0 (by omega) (by omega)]
 ·show (bif Nat.beq (d9 wX k a).2.length a.length then some ((d9 wX k a).1,(d9 wX k a).2) else none)=_
  rw[pH,Nat.beq_refl]
  rfl
 ·intro k i xs e h0 h1 hi he
  have h1':k+1≤4611686018427387904:=h1
  obtain⟨hi',_⟩:=List.getElem?_eq_some_iff.1 he
  have w1:ac (k+1)=k+1:=dV (by omega) (by omega)
  rw[Cp,kT,bX,decide_eq_true hi',cond_true,iU (by omega),Option.bind_some,b8,he,Option.bind_some,kj,w1,cV (by omega)]
  rfl
 ·intro k i xs hi
  rw[Cp,kT,bX,decide_eq_false (show ¬i<xs.length by omega),cond_false]
def OK (a:List Condition):Prop:=∀k:Int,0≤k→k+((3*aO a:Nat):Int)≤4611686018427387000→∃k' a',N9 a k=some (k',a')∧a'.length=a.length∧k≤k'∧k'≤k+((3*aO a:Nat):Int)
theorem Ph (a:List Condition)(ha:a.length≤1048576)(ih:∀x∈a,OK x.Parts):OK a:=by
 intro k h0 hM
 rw[Xh]
 unfold tf
 obtain⟨y,⟨k',a',rfl,e1,e2,e3⟩,h2⟩:=nY (L:=fun i (s:Int×List Condition)=>lU (aP kR) a k (s.1,(i:Int),s.2)) a.length
  (fun i s=>k≤s.1∧s.1≤k+((3*aO (a.take i):Nat):Int)∧s.2.length=a.length∧∀j,i≤j→s.2[j]?=a[j]?)
  (fun y=>∃k' a',y=.inr (k',a')∧a'.length=a.length∧k≤k'∧k'≤k+((3*aO a:Nat):Int)) (s:=(k,a))
  (by
   rintro i ⟨q,xs⟩ hi ⟨j1,j2,j3,j4⟩
   simp only at j1 j2 j3 j4
   have h3:=qz a i hi
   have h4:=me a (i+1)
   have h5:=fC a[i]
   have he:xs[i]?=some a[i]:=by rw[j4 i (Nat.le_refl _)];exact List.getElem?_eq_getElem hi
   have hi':i<xs.length:=by omega
   obtain⟨k',p',f1,f2,f3,f4⟩:=ih _ (List.getElem_mem hi) (q+3) (by omega) (by omega)
   have w1:ac (q+1)=q+1:=dV (by omega) (by omega)
   have w2:ac (q+1+1)=q+2:=by rw[dV (by omega) (by omega)];omega
   have w3:ac (q+2+1)=q+3:=by rw[dV (by omega) (by omega)];omega
   refine .inl ⟨(k',xs.set i ⟨q,oe (q+1),q+2,p'⟩),⟨by simp only;omega,by simp only;omega,by simpa using j3,fun j hj=>?_⟩,?_⟩
   ·rw[List.getElem?_set_ne (by omega)];exact j4 j (by omega)
   ·show lU (aP kR) a k (q,(i:Int),xs)=_
    rw[Cg,jR]
    simp only[bX,decide_eq_true hi',cond_true,iu,b8,kj,he,Option.bind_some,w1,w2,w3,iU (show q+1≤4611686018427387904 by omega),List.getElem?_set_self,List.length_set,hi',decide_true,List.set_set]
    rw[show aP kR (a[i].Parts,q+3)=_ from f1,Option.bind_some]
    simp only[f2,Nat.beq_refl,cond_true,cV (show i<9223372036854775807 by omega)])
  (by
   rintro⟨q,xs⟩ ⟨j1,j2,j3,j4⟩
   simp only at j1 j2 j3 j4
   rw[List.take_length] at j2
   refine⟨_,⟨q,xs,rfl,j3,j1,j2⟩,?_⟩
   show lU (aP kR) a k (q,(a.length:Int),xs)=_
   rw[Cg,jR]
   simp only[bX,decide_eq_false (show ¬a.length<xs.length by omega),cond_false])
  ⟨Int.le_refl k,by simp[aO],rfl,fun _ _=>rfl⟩
 refine⟨k',a',?_,e1,e2,e3⟩
 rw[show lU (aP kR) a k (k,0,a)=some (.inr (k',a')) from h2,fW]
 simp only[e1,Nat.beq_refl,cond_true]
theorem Pi (c:Condition):aO c.Parts≤1048576→OK c.Parts:=by
 refine gc (P:=fun c=>aO c.Parts≤1048576→OK c.Parts) ?_ c
 intro c ih h
 have hl:=hC c.Parts
 refine Ph c.Parts (by omega) fun x hx=>ih x hx ?_
 obtain⟨i,hi,rfl⟩:=List.mem_iff_getElem.1 hx
 have h1:=aap hi
 have h2:=fC c.Parts[i]
 omega
theorem KN (a:List Clause)(ha:lQ gM a){k:Int}(h0:0≤k)(hM:k≤1099511627776):∃k' a',zU a k=some (k',a')∧a'.length=a.length∧k≤k'∧k'≤k+4000000*1048576:=by
 have hal:a.length≤1048576:=ha.1
 unfold zU
 obtain⟨y,⟨k',a',rfl,e1,e2,e3⟩,h2⟩:=nY (L:=fun i (s:Int×List Clause)=>mY a k (s.1,(i:Int),s.2)) a.length
  (fun i s=>k≤s.1∧s.1≤k+4000000*(i:Int)∧s.2.length=a.length∧∀j,i≤j→s.2[j]?=a[j]?)
  (fun y=>∃k' a',y=.inr (k',a')∧a'.length=a.length∧k≤k'∧k'≤k+4000000*1048576) (s:=(k,a))
  (by
   rintro i ⟨q,xs⟩ hi ⟨j1,j2,j3,j4⟩
   simp only at j1 j2 j3 j4
   have he:xs[i]?=some a[i]:=by rw[j4 i (Nat.le_refl _)];exact List.getElem?_eq_getElem hi
   have hi':i<xs.length:=by omega
   have hs:=(gl _).1 (ha.2 _ (List.getElem_mem hi)).2.2.2.2.2.2.1
   have hnc:=hs.2.2.2.2
   obtain⟨k',p',f1,f2,f3,f4⟩:=Pi a[i].When hnc (q+9) (by omega) (by omega)
   have w1:ac (q+1)=q+1:=dV (by omega) (by omega)
   have w2:ac (q+1+1)=q+2:=by rw[dV (by omega) (by omega)];omega
   have w3:ac (q+2+1)=q+3:=by rw[dV (by omega) (by omega)];omega
   have w4:ac (q+3+1)=q+4:=by rw[dV (by omega) (by omega)];omega
   have w5:ac (q+4+1)=q+5:=by rw[dV (by omega) (by omega)];omega
   have w6:ac (q+5+1)=q+6:=by rw[dV (by omega) (by omega)];omega
   have w7:ac (q+6+1)=q+7:=by rw[dV (by omega) (by omega)];omega
   have w8:ac (q+7+1)=q+8:=by rw[dV (by omega) (by omega)];omega
   have w9:ac (q+8+1)=q+9:=by rw[dV (by omega) (by omega)];omega
   have wa:ac (k'+1)=k'+1:=dV (by omega) (by omega)
   have wb:ac (k'+1+1)=k'+2:=by rw[dV (by omega) (by omega)];omega
   refine .inl ⟨(k'+2,xs.set i ⟨oe q,q+1,q+2,oe (q+3),q+4,q+5,⟨q+6,oe (q+7),q+8,p'⟩,k',oe (k'+1)⟩),⟨by simp only;omega,by simp only;omega,by simpa using j3,fun j hj=>?_⟩,?_⟩
   ·rw[List.getElem?_set_ne (by omega)];exact j4 j (by omega)
   ·show mY a k (q,(i:Int),xs)=_
    rw[Cf,kQ]
    simp only[bX,decide_eq_true hi',cond_true,iu,b8,kj,he,Option.bind_some,w1,w2,w3,w4,w5,w6,w7,w8,w9,iU (show q≤4611686018427387904 by omega),iU (show q+3≤4611686018427387904 by omega),iU (show q+7≤4611686018427387904 by omega),List.getElem?_set_self,List.length_set,hi',decide_true,List.set_set,f1,f2,Nat.beq_refl,wa,wb,iU (show k'+1≤4611686018427387904 by omega),cV (show i<9223372036854775807 by omega)])
  (by
   rintro⟨q,xs⟩ ⟨j1,j2,j3,j4⟩
   simp only at j1 j2 j3 j4
   refine⟨_,⟨q,xs,rfl,j3,j1,by omega⟩,?_⟩
   show mY a k (q,(a.length:Int),xs)=_
   rw[Cf,kQ]
   simp only[bX,decide_eq_false (show ¬a.length<xs.length by omega),cond_false])
  ⟨Int.le_refl k,by omega,rfl,fun _ _=>rfl⟩
 refine⟨k',a',?_,e1,e2,e3⟩
 rw[show mY a k (k,0,a)=some (.inr (k',a')) from h2,fW]
 simp only[e1,Nat.beq_refl,cond_true]
theorem HL (c:Contract)(hc:ga c){k:Int}(h0:0≤k)(hM:k≤1000000):∃k',zX c k=some k'∧k≤k'∧k'≤5000000000000:=by
 unfold zX
 obtain⟨k1,a1,e1,l1,b1,b2⟩:=KO c.Parties hc.1.1 h0 (by omega)
 obtain⟨k2,a2,e2,l2,b3,b4⟩:=KN c.Clauses hc.2 (k:=k1) (by omega) (by omega)
 refine⟨k2,?_,by omega,?_⟩
 ·rw[e1,Option.bind_some]
  simp only[l1,Nat.beq_refl,cond_true,e2,Option.bind_some,l2]
 ·omega
theorem MO (a:List Event)(ha:a.length≤1048576){k:Int}(h0:0≤k)(hM:(d9 gV k a).1≤4611686018427387904):vC (d9 gV k a).2 k=some (d9 gV k a).1:=by
 unfold vC
 rw[VK (H:=te (d9 gV k a).2 k) (g:=gV) (M:=4611686018427387904) (a:=(d9 gV k a).2) (xs:=a) (fun k x=>by show k≤k+4;omega) ?_ ?_ h0 hM (by omega) rfl]
 ·rfl
 ·intro k' i e h0 h1 hi he
  have h1':k'+4≤4611686018427387904:=h1
  obtain⟨hi',_⟩:=List.getElem?_eq_some_iff.1 he
  have w1:ac (k'+1)=k'+1:=dV (by omega) (by omega)
  have w2:ac (k'+1+1)=k'+2:=by rw[dV (by omega) (by omega)];omega
  have w3:ac (k'+2+1)=k'+3:=by rw[dV (by omega) (by omega)];omega
  have w4:ac (k'+3+1)=k'+4:=by rw[dV (by omega) (by omega)];omega
  rw[Cc,kP,bX,decide_eq_true hi',cond_true]
  simp only[b8,he,Option.bind_some,w1,w2,w3,w4,iU (show k'+2≤4611686018427387904 by omega),cV (show i<9223372036854775807 by omega),gV,bne_self_eq_false,beq_self_eq_true,Bool.not_true,cond_false]
 ·intro k' i hi
  rw[Cc,kP,bX,decide_eq_false (by omega),cond_false]
namespace EvL
def ev (e:Clause):Event:=⟨0,e.Party,e.Action,e.Amount⟩
theorem fm:∀l:List Clause,(l.flatMap fun e=>[ev e])=l.map ev
 | []=>rfl
 | x::xs=>by rw[List.flatMap_cons,fm xs];rfl
theorem VL (c:Contract)(h:c.Clauses.length≤12):nM c (0,[])=some (.inr (c.Clauses.map ev)):=by
 have:=V3 (L:=fun q:Int×List Event=>nM c q) (a:=c.Clauses) (f:=fun e=>[ev e])
  (by
   intro i x hx
   obtain⟨hi,_⟩:=List.getElem?_eq_some_iff.1 hx
   show nM c _=_
   have hl:((c.Clauses.take i).flatMap fun e=>[ev e]).length≤12:=by rw[fm,List.length_map,List.length_take];omega
   rw[G8,mR]
   simp only[bX,decide_eq_true hi,cond_true,b8,hx,Option.bind_some,oQ (b:=40) (xs:=(c.Clauses.take i).flatMap fun e=>[ev e]) (y:=Event.mk 0 x.Party x.Action x.Amount) (by omega) (by omega),cV (show i<9223372036854775807 by omega)]
   rfl)
  (by
   intro i z hi
   show nM c _=_
   rw[G8,mR]
   simp only[bX,decide_eq_false (show ¬i<c.Clauses.length by omega),cond_false])
 rw[show nM c (0,[])=_ from this,fm]
theorem KK (c:Contract)(i:Int)(out:List Event)(ho:out.length≤12)(e:Clause):∀(n k:Nat) (b:Bool),k+n=out.length→qt c (i,out) e (b,(k:Int))=some (.inr (b||(out.drop k).any fun x=>x==ev e))
 | 0,k,b,hk=>by
  rw[DW,li,List.drop_eq_nil_of_le (by omega)]
  simp only[bX,decide_eq_false (show ¬k<out.length by omega),cond_false,List.any_nil,Bool.or_false]
 | n+1,k,b,hk=>by
  have h1:k<out.length:=by omega
  have ih:=fun b'=>KK c i out ho e n (k+1) b' (by omega)
  have hf:=VF out[k] (ev e)
  simp only[ev] at hf
  rw[DW,li,List.drop_eq_getElem_cons h1]
  simp only[bX,decide_eq_true h1,cond_true,b8,List.getElem?_eq_getElem h1,Option.bind_some,cV (show k<9223372036854775807 by omega),hf,List.any_cons]
  cases b with
  | true=>simp only[cond_true,jH,ih,Bool.true_or]
  | false=>simp only[cond_false,jH,ih,Bool.false_or];rfl
theorem BW (c:Contract)(h:c.Clauses.length≤12):∀(n i:Nat) (out:List Event),i+n=c.Clauses.length→out.length≤i→out.Nodup→(∀x,x∈out↔x∈(c.Clauses.take i).map ev)→∃r,qs c ((i:Int),out)=some (.inr r)∧r.length≤c.Clauses.length∧r.Nodup∧∀x,x∈r↔x∈c.Clauses.map ev
 | 0,i,out,hi,ho,hd,hm=>by
  refine⟨out,?_,by omega,hd,?_⟩
  ·rw[DV,lh]
   simp only[bX,decide_eq_false (show ¬i<c.Clauses.length by omega),cond_false]
  ·rw[List.take_of_length_le (by omega)] at hm
   exact hm
 | n+1,i,out,hi,ho,hd,hm=>by
  have h1:i<c.Clauses.length:=by omega
  have he:=List.getElem?_eq_getElem h1
  have hk:=KK c (i:Int) out (by omega) c.Clauses[i] out.length 0 false (by omega)
  rw[List.drop_zero,Bool.false_or] at hk
  rw[DV,lh]
  simp only[bX,decide_eq_true h1,cond_true,b8,he,Option.bind_some,cV (show i<9223372036854775807 by omega)]
  rw[show qt c ((i:Int),out) c.Clauses[i] (false,0)=_ from hk,jH]
  cases hb:out.any fun x=>x==ev c.Clauses[i] with
  | true=>
   obtain⟨x,hx,hxe⟩:=List.any_eq_true.1 hb
   obtain rfl:=eq_of_beq hxe
   simp only[Bool.not_true,cond_false,jH]
   refine BW c h n (i+1) out (by omega) (by omega) hd fun x=>?_
   rw[List.take_add_one,he,List.map_append,List.mem_append,←hm]
   constructor
   ·exact .inl
   ·rintro (h2 | h2)
    ·exact h2
    ·have:x=ev c.Clauses[i]:=by simpa using h2
     rw[this];exact hx
  | false=>
   simp only[Bool.not_false,cond_true,oQ (b:=40) (xs:=out) (y:=Event.mk 0 c.Clauses[i].Party c.Clauses[i].Action c.Clauses[i].Amount) (by omega) (by omega),Option.bind_some,jH]
   have hn:ev c.Clauses[i]∉out:=by
    intro h2
    have:(out.any fun x=>x==ev c.Clauses[i])=true:=List.any_eq_true.2 ⟨_,h2,by simp⟩
    rw[hb] at this;cases this
   refine BW c h n (i+1) (out++[ev c.Clauses[i]]) (by omega) (by simp;omega) ?_ fun x=>?_
   ·rw[List.nodup_append]
    exact⟨hd,by simp,fun x hx y hy e=>by rw[List.mem_singleton] at hy;subst hy;subst e;exact hn hx⟩
   ·rw[List.take_add_one,he,List.map_append,List.mem_append,List.mem_append,hm]
    simp
theorem HO {a:List Event}(hd:a.Nodup)(hs:a.Pairwise Le):a.Pairwise Lt:=by
 have:=hd.and hs
 exact this.imp fun {x y} h=>(h.2.lt_or).resolve_right h.1
theorem Tt (a:List Event)(ha:a.length≤1048576):(a.mergeSort (fun x y=>!eO y x)).Pairwise Le:=by
 obtain⟨s,h1,h2,h3⟩:=NN a ha
 rw[←Xa a s h2 h3]
 exact h3.imp fun {x y} h=>by simp[Le,Lt,h]
theorem moves_two (c:Contract)(h:c.Clauses.length≤12)(hs:ga c):∃r,A8 c=some r∧J6 c=some r∧lQ rm r:=by
 obtain⟨r,r1,r2,r3,r4⟩:=BW c h c.Clauses.length 0 [] (by omega) (by simp) List.nodup_nil (by simp)
 have hl:(c.Clauses.map ev).length≤1048576:=by rw[List.length_map];omega
 have hsl:((c.Clauses.map ev).mergeSort (fun x y=>!eO y x)).length≤1048576:=by rw[List.length_mergeSort];exact hl
 obtain⟨d1,d2⟩:=dd_ok (Tt (c.Clauses.map ev) hl)
 have e:r.mergeSort (fun x y=>!eO y x)=dd ((c.Clauses.map ev).mergeSort (fun x y=>!eO y x)):=by
  refine asc_uniq (HO ((List.mergeSort_perm r _).nodup_iff.2 r3) (Tt r (by omega))) d1 fun x=>?_
  rw[d2,List.mem_mergeSort,List.mem_mergeSort,r4]
 refine⟨r.mergeSort (fun x y=>!eO y x),?_,?_,?_⟩
 ·unfold A8
  rw[show qs c (0,[])=_ from r1,fW,Ts r (by omega)]
  rfl
 ·unfold J6
  rw[VL c h,fW,SR _ (by rw[List.length_map];exact h),Option.bind_some,List.length_mergeSort,Nat.beq_refl,cond_true,compact_val _ hsl,e]
  rfl
 ·refine⟨by rw[List.length_mergeSort];omega,fun x hx=>?_⟩
  rw[List.mem_mergeSort,r4,List.mem_map] at hx
  obtain⟨y,hy,rfl⟩:=hx
  have hcl:=(hs.2.2 y hy).2.2.2.1
  exact⟨trivial,trivial,hcl,trivial⟩
end EvL
theorem S3 (c:Contract)(hs:ga c):∃r,A6 c=some r∧G3 c=some r∧lQ rm r.1:=by
 unfold A6 G3
 rw[HP c hs,HJ c hs]
 cases h:qV c with
 | false=>exact⟨_,rfl,rfl,by simp[lQ]⟩
 | true=>
  obtain⟨r,r1,r2,r3⟩:=EvL.moves_two c (Kq h).2.1 hs
  simp only[Option.bind_some,Bool.not_true,cond_false,r1,r2]
  exact⟨_,rfl,rfl,r3⟩
theorem xd (c:Contract)(hc:Ud c):fX c=some true:=by
 unfold fX
 obtain⟨r1,e1,q1⟩:=M0 c hc (l:=1048576) (by decide) (by decide)
 rw[e1,Option.bind_some]
 rcases q1 with q1 | ⟨q1,p1,s1⟩
 ·rw[decide_eq_true q1,cond_true]
 rw[decide_eq_false (by omega),cond_false]
 obtain⟨v,g1,g2,s3⟩:=S3 c s1
 obtain⟨km,m1,m2,m3⟩:=HL c s1 (k:=1) (by decide) (by decide)
 obtain⟨m4,m5⟩:=VX v.1 s3.1
 simp only[M1 c s1,Option.bind_some,g1,g2,ML c s1,SF v.1 s3,iu,bne_self_eq_false,beq_self_eq_true,Bool.not_true,cond_false,m1,MQ v.1 s3 (by decide) m5,MO v.1 s3.1 (by decide) m5,pH,Nat.beq_refl,cond_true,decide_eq_false (show ¬km<0 by omega),decide_eq_false (show ¬(d9 gV 1 v.1).1<0 by omega),bD]
end Go.Ln
