/-
  The plain law.
-/
import Derived.Test.YtcfddlacocdpoaaGreatDoorFnExactActionStatusLib
import Derived.Sort.AssemblyPlain
import Derived.Sort.LotD4
import Derived.Sort.LotD5
set_option linter.unusedVariables false
set_option linter.unusedSimpArgs false
set_option maxRecDepth 100000
namespace Go.Ln
open Go
theorem wr {α:Type}{b:Nat}{xs:List α}{y:α}(h:(xs.length+1)*b≤1099511627776)(h2:xs.length+1≤1099511627776):gP b xs [y]=some (xs++[y]):=by
 unfold gP
 rw[if_pos]
 simp only[List.length_cons,List.length_nil,lN,Nat.zero_add]
 omega
namespace StrL
theorem lt_irrefl:∀(a:ac),Op.bytesLess a a=false
 | []=>rfl
 | x::xs=>by
  have h:¬x<x:=by simp
  simp[Op.bytesLess,h,lt_irrefl xs]
theorem lt_trans:∀(a b c:ac),Op.bytesLess a b=true→Op.bytesLess b c=true→Op.bytesLess a c=true
 | _,[],_,h,_=>by simp[Op.bytesLess] at h
 | _,_::_,[],_,h=>by simp[Op.bytesLess] at h
 | [],_::_,_::_,_,_=>rfl
 | x::xs,y::ys,z::zs,h1,h2=>by
  simp only[Op.bytesLess,Bool.or_eq_true,decide_eq_true_eq,Bool.and_eq_true,beq_iff_eq] at h1 h2 ⊢
  rcases h1 with h1 | ⟨h1,h3⟩<;>rcases h2 with h2 | ⟨h2,h4⟩
  ·exact .inl (UInt8.lt_trans h1 h2)
  ·subst h2;exact .inl h1
  ·subst h1;exact .inl h2
  ·subst h1;subst h2;exact .inr ⟨rfl,lt_trans xs ys zs h3 h4⟩
def Lt (a b:ac):Prop:=Op.bytesLess a b=true
theorem tri (a b:ac):Lt a b∨a=b∨Lt b a:=by
 have:=O5 a b
 unfold Lt
 cases h:Op.bytesLess a b
 ·cases h2:a==b
  ·rw[h,h2] at this;exact .inr (.inr this.symm)
  ·exact .inr (.inl (by simpa using h2))
 ·exact .inl rfl
theorem Lt.irrefl {a:ac}(h:Lt a a):False:=by unfold Lt at h;rw[lt_irrefl] at h;cases h
theorem Lt.trans {a b c:ac}(h:Lt a b)(h2:Lt b c):Lt a c:=lt_trans a b c h h2
theorem Lt.asymm {a b:ac}(h:Lt a b)(h2:Lt b a):False:=(h.trans h2).irrefl
def Le (a b:ac):Prop:=¬Lt b a
theorem Le.lt_or {a b:ac}(h:Le a b):Lt a b∨a=b:=by
 rcases tri a b with h1 | h1 | h1
 ·exact .inl h1
 ·exact .inr h1
 ·exact (h h1).elim
theorem Le.trans {a b c:ac}(h:Le a b)(h2:Le b c):Le a c:=by
 intro h3
 rcases h.lt_or with h4 | rfl
 ·rcases h2.lt_or with h5 | rfl
  ·exact (h4.trans h5).asymm h3
  ·exact h h3
 ·exact h2 h3
theorem Lt.le {a b:ac}(h:Lt a b):Le a b:=fun h2=>h.asymm h2
theorem Lt.ne {a b:ac}(h:Lt a b):a≠b:=fun e=>by subst e;exact h.irrefl
theorem Le.le_lt {a b c:ac}(h:Le a b)(h2:Lt b c):Lt a c:=by
 rcases h.lt_or with h3 | rfl
 ·exact h3.trans h2
 ·exact h2
end StrL
namespace StrL
def hZ (a:List ac)(j:Nat):Bool:=match j with
 | 0=>true
 | j+1=>match a[j]?,a[j+1]? with
  | some x,some y=>y != x
  | _,_=>true
def dd (a:List ac):List ac:=mm (hZ a) a a.length
theorem KE {a:List ac}{k:Nat}(h:∀j x y,j+1<k→a[j]?=some x→a[j+1]?=some y→y≠x)(hn:k≤a.length):mm (hZ a) a k=a.take k:=by
 have e:∀n,n≤k→mm (hZ a) a n=a.take n:=by
  intro n
  induction n with
  | zero=>intro _;rfl
  | succ n ih=>
   intro hk
   have h1:n<a.length:=by omega
   have hx:=List.getElem?_eq_getElem h1
   rw[Eh ?_ hx,ih (by omega),List.take_add_one,hx]
   ·rfl
   ·cases n with
    | zero=>rfl
    | succ n=>
     have h2:=List.getElem?_eq_getElem (show n<a.length by omega)
     simp only[hZ,h2,hx]
     simpa using h n _ _ (by omega) h2 hx
 exact e k (Nat.le_refl k)
theorem Rl {s z:List ac}{x j:Nat}(h1:x≤j)(h2:j<s.length):wC z (0+Int.toNat (x:Int)) (Int.toNat (len s) - Int.toNat (x:Int)) ((j:Int) - (x:Int))=z[j]?:=by
 unfold wC
 simp only[len,Int.toNat_natCast,Nat.zero_add]
 rw[if_pos (by omega),show x+((j:Int) - (x:Int)).toNat=j by omega]
theorem OE (s:List ac)(x:Nat)(hl:s.length≤1048576)(hx:x<s.length)(h0:mm (hZ s) s (x+1)=s.take x):∃(i:Nat) (z:List ac),ls s (x:Int) ((x:Int),1,s)=some (.inr ((i:Int),z))∧z.length=s.length∧i≤z.length∧z.take i=dd s:=by
 have hD:=adu (L:=fun q:Int×Int×List ac=>ls s (x:Int) (q.1,q.2.1 - (x:Int),q.2.2)) (keep:=hZ s) (a:=s) (i0:=x)
  (by
   intro i j z y hz hi hij hy hy2 hy3
   obtain⟨h1,_⟩:=List.getElem?_eq_some_iff.1 hy
   have h2:=List.getElem?_eq_getElem (show j - 1<s.length by omega)
   have h4:=List.getElem?_eq_getElem (show i<z.length by omega)
   show ls s (x:Int) ((i:Int),(j:Int) - (x:Int),z)=bif hZ s j then ls s (x:Int) (((i+1:Nat):Int),((j+1:Nat):Int) - (x:Int),z.set i y) else ls s (x:Int) ((i:Int),((j+1:Nat):Int) - (x:Int),z)
   have w1:aj ((j:Int) - (x:Int) - 1)=((j - 1:Nat):Int) - (x:Int):=by rw[iI (by omega) (by omega)];omega
   have w2:aj ((j:Int) - (x:Int)+1)=((j+1:Nat):Int) - (x:Int):=by rw[iI (by omega) (by omega)];omega
   have c1:decide ((j:Int) - (x:Int)<(((Int.toNat (len s) - Int.toNat (x:Int)):Nat):Int))=true:=decide_eq_true (by simp only[len,Int.toNat_natCast];omega)
   rw[F9,lV]
   simp only[c1,cond_true,w1,w2,Rl (show x≤j by omega) h1,Rl (show x≤j - 1 by omega) (show j - 1<s.length by omega),hy2,hy3,h2,Option.bind_some,cl,Ew,h4,dS (show i<9223372036854775807 by omega)]
   have hk:hZ s j=(y != s[j - 1]):=by
    cases j with
    | zero=>omega
    | succ j=>
     simp only[hZ,hy,show j+1 - 1=j by omega] at h2 ⊢
     simp only[h2]
   rw[hk]
   show _=bif !(y==s[j - 1]) then _ else _
   cases y==s[j - 1]<;>rfl)
  (by
   intro i j z hz hi hij hj
   show ls s (x:Int) ((i:Int),(j:Int) - (x:Int),z)=_
   have c1:decide ((j:Int) - (x:Int)<(((Int.toNat (len s) - Int.toNat (x:Int)):Nat):Int))=false:=decide_eq_false (by simp only[len,Int.toNat_natCast];omega)
   rw[F9,lV]
   simp only[c1,cond_false])
  h0 hx
 simp only[show ((x+1:Nat):Int) - (x:Int)=1 by omega] at hD
 exact hD
theorem yO (s:List ac)(hl:s.length≤1048576):∀(n k:Nat),k+n=s.length→1≤k→(∀j x y,j+1<k→s[j]?=some x→s[j+1]?=some y→y≠x)→∃y,rU s (k:Int)=some y∧(y=.inl (dd s)∨y=.inr (dd s))
 | 0,k,hk,h1,h=>by
  refine⟨.inr s,?_,.inr ?_⟩
  ·rw[F8,lU,cp,decide_eq_false (by omega),cond_false]
  ·unfold dd
   rw[KE (k:=s.length) (fun j x y hj=>h j x y (by omega)) (Nat.le_refl _),List.take_length]
 | n+1,k,hk,h1,h=>by
  have h2:k<s.length:=by omega
  have e1:=List.getElem?_eq_getElem h2
  have e2:=List.getElem?_eq_getElem (show k - 1<s.length by omega)
  have w1:aj ((k:Int) - 1)=((k - 1:Nat):Int):=by rw[iI (by omega) (by omega)];omega
  rw[F8,lU,cp,decide_eq_true h2,cond_true,w1,cl,cl,e1,e2,Option.bind_some,Option.bind_some,dS (by omega)]
  by_cases hq:s[k]=s[k - 1]
  ·rw[beq_iff_eq.2 hq,cond_true]
   have e3:jY s.length (k:Int) (len s)=some ():=by unfold jY;rw[if_pos (by simp only[len];omega)]
   have hno:hZ s k=false:=by
    cases k with
    | zero=>omega
    | succ k=>
     simp only[show k+1 - 1=k by omega] at e2 hq
     simp only[hZ,e1,e2,hq,bne_self_eq_false]
   obtain⟨i,z,e,hz,hi,ht⟩:=OE s k hl h2 (by rw[KK hno,KE h (by omega)])
   rw[e3,Option.bind_some,e,eP]
   refine⟨.inl (dd s),?_,.inl rfl⟩
   rw[←ht]
   exact aih (c:=([]:ac)) (F:=fun p19=>some (Sum.inl p19)) hi
  ·rw[beq_eq_false_iff_ne.2 hq,cond_false]
   refine yO s hl n (k+1) (by omega) (by omega) fun j x y hj hx hy=>?_
   by_cases hj2:j+1<k
   ·exact h j x y hj2 hx hy
   ·obtain rfl:k=j+1:=by omega
    simp only[show j+1 - 1=j by omega] at e2 hq
    rw[e2] at hx
    rw[e1] at hy
    cases hx
    cases hy
    exact hq
theorem compact_val (s:List ac)(hl:s.length≤1048576):C1 s=some (dd s):=by
 unfold C1
 by_cases h:len s<2
 ·rw[decide_eq_true h,cond_true]
  have h':s.length<2:=by simp only[len] at h;omega
  unfold dd
  rw[KE (k:=s.length) (fun j x y hj=>by omega) (Nat.le_refl _),List.take_length]
 ·rw[decide_eq_false h,cond_false]
  have h':¬s.length<2:=by simp only[len] at h;omega
  obtain⟨y,hy,hq⟩:=yO s hl (s.length - 1) 1 (by omega) (Nat.le_refl _) (fun j x y hj=>by omega)
  rw[show rU s 1=some y from hy]
  rcases hq with rfl | rfl<;>rfl
end StrL
namespace StrL
theorem Lq {a:List ac}(hs:a.Pairwise Le):∀n,n≤a.length→(mm (hZ a) a n).Pairwise Lt∧∀x,x∈mm (hZ a) a n↔x∈a.take n
 | 0,_=>by
  have e:mm (hZ a) a 0=[]:=rfl
  rw[e]
  exact⟨List.Pairwise.nil,fun x=>by simp⟩
 | n+1,hn=>by
  obtain⟨h1,h2⟩:=Lq hs n (by omega)
  have hlt:n<a.length:=by omega
  have hx:=List.getElem?_eq_getElem hlt
  have hle:∀y∈a.take n,Le y a[n]:=by
   intro y hy
   obtain⟨i,hi,rfl⟩:=List.mem_iff_getElem.1 hy
   rw[List.length_take] at hi
   rw[List.getElem_take]
   exact List.pairwise_iff_getElem.1 hs i n (by omega) hlt (by omega)
  cases hk:hZ a n with
  | true=>
   rw[Eh hk hx]
   have hstrict:∀y∈a.take n,Lt y a[n]:=by
    intro y hy
    cases n with
    | zero=>simp at hy
    | succ j=>
     have h3:=List.getElem?_eq_getElem (show j<a.length by omega)
     have hne:a[j+1]≠a[j]:=by
      simp only[hZ,h3,hx] at hk
      simpa using hk
     have hj:Le a[j] a[j+1]:=List.pairwise_iff_getElem.1 hs j (j+1) (by omega) hlt (by omega)
     obtain⟨i,hi,rfl⟩:=List.mem_iff_getElem.1 hy
     rw[List.length_take] at hi
     rw[List.getElem_take]
     have hlt2:Lt a[j] a[j+1]:=hj.lt_or.resolve_right fun e=>hne e.symm
     by_cases e:i=j
     ·subst e;exact hlt2
     ·have:=List.pairwise_iff_getElem.1 hs i j (by omega) (by omega) (by omega)
      exact this.le_lt hlt2
   refine⟨List.pairwise_append.2 ⟨h1,List.pairwise_singleton _ _,fun y hy z hz=>?_⟩,fun x=>?_⟩
   ·rw[List.mem_singleton] at hz
    subst hz
    exact hstrict y ((h2 y).1 hy)
   ·rw[List.take_add_one,hx,List.mem_append,List.mem_append,h2]
    rfl
  | false=>
   rw[KK hk]
   refine⟨h1,fun x=>?_⟩
   rw[h2,List.take_add_one,hx,List.mem_append]
   constructor
   ·exact .inl
   ·rintro (h | h)
    ·exact h
    ·have e:x=a[n]:=by simpa using h
     subst e
     cases n with
     | zero=>simp[hZ] at hk
     | succ j=>
      have h3:=List.getElem?_eq_getElem (show j<a.length by omega)
      simp only[hZ,h3,hx] at hk
      have e:a[j+1]=a[j]:=by simpa using hk
      rw[e]
      have:a[j]∈a.take (j+1):=by
       rw[List.mem_iff_getElem]
       exact⟨j,by rw[List.length_take];omega,by rw[List.getElem_take]⟩
      exact this
theorem dd_ok {a:List ac}(hs:a.Pairwise Le):(dd a).Pairwise Lt∧∀x,x∈dd a↔x∈a:=by
 have:=Lq hs a.length (Nat.le_refl _)
 rw[List.take_length] at this
 exact this
theorem asc_uniq:∀{a b:List ac},a.Pairwise Lt→b.Pairwise Lt→(∀x,x∈a↔x∈b)→a=b
 | [],[],_,_,_=>rfl
 | [],y::b,_,_,h=>absurd ((h y).2 (by simp)) (by simp)
 | x::a,[],_,_,h=>absurd ((h x).1 (by simp)) (by simp)
 | x::a,y::b,ha,hb,h=>by
  rw[List.pairwise_cons] at ha hb
  have e:x=y:=by
   have h1:=(h x).1 (by simp)
   have h2:=(h y).2 (by simp)
   rw[List.mem_cons] at h1 h2
   rcases h1 with h1 | h1
   ·exact h1
   ·rcases h2 with h2 | h2
    ·exact h2.symm
    ·exact ((ha.1 y h2).asymm (hb.1 x h1)).elim
  subst e
  rw[asc_uniq ha.2 hb.2 fun z=>?_]
  constructor
  ·intro hz
   have h1:=(h z).1 (List.mem_cons_of_mem _ hz)
   rcases List.mem_cons.1 h1 with e | h1
   ·subst e;exact (ha.1 z hz).irrefl.elim
   ·exact h1
  ·intro hz
   have h1:=(h z).2 (List.mem_cons_of_mem _ hz)
   rcases List.mem_cons.1 h1 with e | h1
   ·subst e;exact (hb.1 z hz).irrefl.elim
   ·exact h1
theorem Oz {b:Nat}{xs ys:List ac}(h:(xs.length+ys.length)*b≤1099511627776)(h2:xs.length+ys.length≤1099511627776):gP b xs ys=some (xs++ys):=by
 unfold gP
 rw[if_pos]
 simp only[lN]
 omega
theorem Pm (l:List ac)(n:ac)(m:Nat)(hm:m≤l.length)(hl:l.length≤1048576)(h1:∀(j:Nat) x,j<m→l[j]?=some x→Lt x n)(h2:∀x,l[m]?=some x→¬Lt x n):∀(k j:Nat),j+k=m→uW l n (j:Int)=some (.inr (n,(m:Int),l))
 | 0,j,hj=>by
  obtain rfl:j=m:=by omega
  rw[HD,l8,cp]
  by_cases h:j<l.length
  ·rw[decide_eq_true h,cond_true,cl,List.getElem?_eq_getElem h,Option.bind_some,eP,show Op.bytesLess l[j] n=false from by simpa[Lt] using h2 _ (List.getElem?_eq_getElem h),cond_false]
  ·rw[decide_eq_false h,cond_false,eP,cond_false]
 | k+1,j,hj=>by
  have h:j<l.length:=by omega
  rw[HD,l8,cp,decide_eq_true h,cond_true,cl,List.getElem?_eq_getElem h,Option.bind_some,eP,show Op.bytesLess l[j] n=true from h1 j _ (by omega) (List.getElem?_eq_getElem h),cond_true,dS (by omega)]
  exact Pm l n m hm hl h1 h2 k (j+1) (by omega)
theorem put_val (l:List ac)(n:ac)(hl:l.length≤1000000)(hs:l.Pairwise Lt):∃r,yj l n=some r∧r.Pairwise Lt∧(∀x,x∈r↔x∈l∨x=n)∧r.length≤l.length+1:=by
 have key:∃m,m≤l.length∧(∀(j:Nat) x,j<m→l[j]?=some x→Lt x n)∧(∀x,l[m]?=some x→¬Lt x n):=by
  clear hl
  induction l with
  | nil=>exact⟨0,by simp,fun j x hj=>by omega,fun x hx=>by simp at hx⟩
  | cons y l ih=>
   by_cases hy:Lt y n
   ·obtain⟨m,h1,h2,h3⟩:=ih (List.pairwise_cons.1 hs).2
    refine⟨m+1,by simp;omega,fun j x hj hx=>?_,fun x hx=>h3 x (by simpa using hx)⟩
    cases j with
    | zero=>simp at hx;subst hx;exact hy
    | succ j=>exact h2 j x (by omega) (by simpa using hx)
   ·exact⟨0,by simp,fun j x hj=>by omega,fun x hx=>by simp at hx;subst hx;exact hy⟩
 obtain⟨m,hm,h1,h2⟩:=key
 have hlow:∀x∈l.take m,Lt x n:=by
  intro x hx
  obtain⟨i,hi,rfl⟩:=List.mem_iff_getElem.1 hx
  rw[List.length_take] at hi
  rw[List.getElem_take]
  exact h1 i _ (by omega) (List.getElem?_eq_getElem (by omega))
 have hloop:=Pm l n m hm (by omega) h1 h2 m 0 (by omega)
 rw[show ((0:Nat):Int)=0 from rfl] at hloop
 unfold yj
 rw[hloop]
 simp only[cn,cp]
 have s1:jY l.length 0 (m:Int)=some ():=by unfold jY;rw[if_pos (by omega)]
 have s2:jY l.length (m:Int) (len l)=some ():=by unfold jY;rw[if_pos (by simp only[len];omega)]
 have p1:kc l (0+Int.toNat 0) (Int.toNat (m:Int) - Int.toNat 0)=some (l.take m):=by
  unfold kc
  simp only[Int.toNat_zero,Int.toNat_natCast,Nat.zero_add,Nat.sub_zero,List.drop_zero]
  rw[if_pos hm]
 have p2:kc l (0+Int.toNat (m:Int)) (Int.toNat (len l) - Int.toNat (m:Int))=some (l.drop m):=by
  unfold kc
  simp only[Int.toNat_natCast,Nat.zero_add,len]
  rw[if_pos (by omega),List.take_of_length_le (by rw[List.length_drop];omega)]
 have a1:gP 16 ([]:List ac) (l.take m)=some (l.take m):=by rw[Oz (by simp only[List.length_nil,List.length_take];omega) (by simp only[List.length_nil,List.length_take];omega)];rfl
 have a2:gP 16 (l.take m) [n]=some (l.take m++[n]):=wr (by rw[List.length_take];omega) (by rw[List.length_take];omega)
 have a3:gP 16 (l.take m++[n]) (l.drop m)=some (l.take m++[n]++l.drop m):=Oz (by simp only[List.length_append,List.length_take,List.length_drop,List.length_singleton];omega) (by simp only[List.length_append,List.length_take,List.length_drop,List.length_singleton];omega)
 have hins:(∀x∈l.drop m,Lt n x)→(l.take m++[n]++l.drop m).Pairwise Lt∧(∀x,x∈l.take m++[n]++l.drop m↔x∈l∨x=n)∧(l.take m++[n]++l.drop m).length≤l.length+1:=by
  intro hhi
  have hs2:=hs
  rw[←List.take_append_drop m l,List.pairwise_append] at hs2
  refine⟨List.pairwise_append.2 ⟨List.pairwise_append.2 ⟨hs2.1,List.pairwise_singleton _ _,fun x hx y hy=>?_⟩,hs2.2.1,fun x hx y hy=>?_⟩,fun x=>?_,?_⟩
  ·rw[List.mem_singleton] at hy;subst hy;exact hlow x hx
  ·rcases List.mem_append.1 hx with hx | hx
   ·exact hs2.2.2 x hx y hy
   ·rw[List.mem_singleton] at hx;subst hx;exact hhi y hy
  ·have:x∈l↔x∈l.take m∨x∈l.drop m:=by
    rw[←List.mem_append,List.take_append_drop]
   rw[List.mem_append,List.mem_append,List.mem_singleton,this]
   constructor
   ·rintro ((h | h) | h)
    ·exact .inl (.inl h)
    ·exact .inr h
    ·exact .inl (.inr h)
   ·rintro ((h | h) | h)
    ·exact .inl (.inl h)
    ·exact .inr h
    ·exact .inl (.inr h)
  ·simp only[List.length_append,List.length_take,List.length_drop,List.length_singleton];omega
 by_cases hb:m<l.length
 ·have hx:=List.getElem?_eq_getElem hb
  have hge:=h2 _ hx
  have hrest:∀x∈l.drop (m+1),Lt l[m] x:=by
   intro x hx
   obtain⟨i,hi,rfl⟩:=List.mem_iff_getElem.1 hx
   rw[List.length_drop] at hi
   rw[List.getElem_drop]
   exact List.pairwise_iff_getElem.1 hs m (m+1+i) hb (by omega) (by omega)
  rw[decide_eq_true hb,cond_true,cl,hx,Option.bind_some,cn,Af]
  by_cases he:l[m]=n
  ·rw[decide_eq_true he,cond_true]
   refine⟨l,rfl,hs,fun x=>⟨.inl,?_⟩,by omega⟩
   rintro (h | h)
   ·exact h
   ·rw[h,←he];exact List.getElem_mem hb
  ·rw[decide_eq_false he,cond_false]
   simp only[s1,p1,a1,a2,s2,p2,a3,Option.bind_some]
   refine⟨_,rfl,hins ?_⟩
   intro x hx
   rw[List.drop_eq_getElem_cons hb] at hx
   rcases List.mem_cons.1 hx with rfl | hx
   ·exact (tri n l[m]).resolve_right fun h=>h.elim (fun e=>he e.symm) hge
   ·have h1:Lt n l[m]:=(tri n l[m]).resolve_right fun h=>h.elim (fun e=>he e.symm) hge
    exact h1.trans (hrest x hx)
 ·rw[decide_eq_false hb,cond_false,cn,cond_false]
  simp only[s1,p1,a1,a2,s2,p2,a3,Option.bind_some]
  refine⟨_,rfl,hins ?_⟩
  intro x hx
  rw[List.drop_of_length_le (by omega)] at hx
  cases hx
end StrL
theorem Ai {x y:ac}:decide (x≤y)=true↔StrL.Le x y:=by
 unfold StrL.Le StrL.Lt
 rw[Go.Proofs.bytesLess_eq,decide_eq_true_iff,decide_eq_true_iff]
 exact Iff.rfl
theorem abU (l:List ac):(l.mergeSort fun x y=>decide (x≤y)).Pairwise StrL.Le:=by
 have h:=List.pairwise_mergeSort (le:=fun x y:ac=>decide (x≤y)) (fun x y z h1 h2=>by
  rw[Ai] at *;exact h1.trans h2) (fun x y=>by
  rw[Bool.or_eq_true,Ai,Ai]
  rcases StrL.tri x y with h | h | h
  ·exact .inl h.le
  ·subst h;exact .inl fun h=>h.irrefl
  ·exact .inr h.le) l
 exact h.imp fun {x y} h=>Ai.1 h
theorem YS (l r:List ac)(hl:l.length≤1048576)(hr:r.Pairwise StrL.Lt)(hm:∀x,x∈r↔x∈l):B8 l=some r:=by
 unfold B8 vO
 have hl2:(l.mergeSort fun (x y:ac)=>decide (x≤y)).length=l.length:=List.length_mergeSort _
 rw[Nat.ble_eq_true_of_le hl,cond_true,Option.bind_some,hl2,Nat.beq_refl,cond_true,StrL.compact_val _ (by rw[hl2];exact hl),Option.bind_some]
 obtain⟨h1,h2⟩:=StrL.dd_ok (abU l)
 congr 1
 refine StrL.asc_uniq h1 hr fun x=>?_
 rw[h2,hm]
 exact (List.mergeSort_perm l _).mem_iff
theorem Ec (b x:Bool):(bif b then x else false)=(b&&x):=by cases b<;>rfl
def eS (x a b:Int):Bool:=decide (x≥a)&&decide (x≤b)
theorem mU (x a b:Int):eJ x a b=some (eS x a b):=by simp only[eJ,eQ,Ec,eS]
theorem lD (x a b:Int):jq x a b=some (eS x a b):=by simp only[jq,eQ,Ec,eS]
def lO (c:UInt8):Bool:=(decide (97≤c.toNat)&&decide (c.toNat≤122))||(decide (48≤c.toNat)&&decide (c.toNat≤57))
theorem Yt (c:UInt8):ym (c.toNat:Int)=some (lO c):=by
 simp only[ym,lO,eQ]
 by_cases h1:97≤c.toNat<;>by_cases h2:c.toNat≤122<;>by_cases h3:48≤c.toNat<;>by_cases h4:c.toNat≤57<;>simp[h1,h2,h3,h4,show ((97:Int)≤c.toNat)↔97≤c.toNat by omega,show ((c.toNat:Int)≤122)↔c.toNat≤122 by omega,show ((48:Int)≤c.toNat)↔48≤c.toNat by omega,show ((c.toNat:Int)≤57)↔c.toNat≤57 by omega]
def mV:List ac:=[[116,114,117,101],[102,114,111,109],[110,111,116],[97,110,100],[111,114],[98,111,116,104],[101,105,116,104,101,114],[105,116],[105,110]]
def gJ (s:ac):Bool:=match s with
 | []=>false
 | c::r=>decide (r.length<8)&&decide (97≤c.toNat)&&decide (c.toNat≤122)&&s.all lO && !mV.contains s
theorem adt (b x:Bool):(bif b then b else x)=(b||x):=by cases b<;>rfl
theorem QR:D1 [116,114,117,101,32,102,114,111,109,32,110,111,116,32,97,110,100,32,111,114,32,98,111,116,104,32,101,105,116,104,101,114,32,105,116,32,105,110] [32]=some mV:=by
 have h:zH [116,114,117,101,32,102,114,111,109,32,110,111,116,32,97,110,100,32,111,114,32,98,111,116,104,32,101,105,116,104,101,114,32,105,116,32,105,110] [32] 0 (-1) 9 ([116,114,117,101,32,102,114,111,109,32,110,111,116,32,97,110,100,32,111,114,32,98,111,116,104,32,101,105,116,104,101,114,32,105,116,32,105,110],0,List.replicate 9 [])=some (.inr ([105,110],8,[[116,114,117,101],[102,114,111,109],[110,111,116],[97,110,100],[111,114],[98,111,116,104],[101,105,116,104,101,114],[105,116],[]])):=
  (jQ (fun a=>(Bp _ _ _ _ _ a).1)).2 ⟨20,by decide +kernel⟩
 have e:D1 [116,114,117,101,32,102,114,111,109,32,110,111,116,32,97,110,100,32,111,114,32,98,111,116,104,32,101,105,116,104,101,114,32,105,116,32,105,110] [32]=(be (zH [116,114,117,101,32,102,114,111,109,32,110,111,116,32,97,110,100,32,111,114,32,98,111,116,104,32,101,105,116,104,101,114,32,105,116,32,105,110] [32] 0 (-1) 9 ([116,114,117,101,32,102,114,111,109,32,110,111,116,32,97,110,100,32,111,114,32,98,111,116,104,32,101,105,116,104,101,114,32,105,116,32,105,110],0,List.replicate 9 [])) fun u12:ac×Int×(List ac)=>(aI u12.2.2 u12.2.1).bind fun e13=>(jY (dM u12.2.2 u12.2.1 u12.1).length 0 (aj (u12.2.1+1))).bind fun s14=>(kc (dM u12.2.2 u12.2.1 u12.1) (0+Int.toNat (0)) (Int.toNat ((aj (u12.2.1+1))) - Int.toNat (0))).bind fun p15=>some p15).bind fun r=>some r:=by rfl
 rw[e,h]
 rfl
theorem KD (s:ac):oV mV s=some (mV.contains s):=by
 unfold oV xN
 rw[js (L:=pO mV s) (a:=mV) (p:=fun e=>some (s==e)) (q:=fun e=>s==e) (fun _ _=>rfl) (fun x=>by rw[vW,kz]<;>rfl) (by decide)]
 cases h:mV.findIdx? (fun e=>s==e) with
 | none=>
  have:mV.contains s=false:=by
   rw[List.findIdx?_eq_none_iff] at h
   rw[Bool.eq_false_iff]
   intro hc
   rw[List.contains_iff_exists_mem_beq] at hc
   obtain⟨w,hw,he⟩:=hc
   rw[h w hw] at he
   cases he
  rw[this]
  rfl
 | some i=>
  have:mV.contains s=true:=by
   rw[List.findIdx?_eq_some_iff_getElem] at h
   obtain⟨hi,he,_⟩:=h
   rw[List.contains_iff_exists_mem_beq]
   exact⟨_,List.getElem_mem hi,he⟩
  rw[this]
  simp
theorem Tk (s:ac):(bif s==[116,114,117,101] then s==[116,114,117,101] else bif s==[102,114,111,109] then s==[102,114,111,109] else bif s==[110,111,116] then s==[110,111,116] else bif s==[97,110,100] then s==[97,110,100] else bif s==[111,114] then s==[111,114] else bif s==[98,111,116,104] then s==[98,111,116,104] else bif s==[101,105,116,104,101,114] then s==[101,105,116,104,101,114] else bif s==[105,116] then s==[105,116] else s==[105,110])=mV.contains s:=by
 simp only[adt,mV,List.contains_cons,List.contains_nil,Bool.or_false]
theorem oT (s:ac)(hs:s.length≤1048576):qZ s=some (gJ s):=by
 unfold qZ eJ gJ
 simp only[eQ,Option.bind_some,Tk]
 cases s with
 | nil=>rfl
 | cons c r=>
  have e1:decide (len (c::r)≥1)=true:=decide_eq_true (by simp[len];omega)
  have e2:decide (len (c::r)≤8)=decide (r.length<8):=by simp only[len,List.length_cons];congr 1;apply propext;omega
  have e3:aI (c::r) (0:Int)=some c:=rfl
  have e4:decide ((c.toNat:Int)<97)=!decide (97≤c.toNat):=by rw[←decide_not];congr 1;apply propext;omega
  have e5:decide ((c.toNat:Int)>122)=!decide (c.toNat≤122):=by rw[←decide_not];congr 1;apply propext;omega
  rw[e1,e2,e3,vr (r:=false) (L:=uT (c::r)) (a:=c::r) (p:=fun c=>(ym (c.toNat:Int)).bind fun r=>some (!r)) (q:=fun c=>!lO c) (fun x _=>by rw[Yt];rfl) (fun x=>by rw[Sg,ov];simp only[Option.bind_assoc,Option.bind_some]) (by omega)]
  simp only[cond_true,Option.bind_some,e4,e5]
  have e6:((c::r).any fun c=>!lO c)=!((c::r).all lO):=by rw[List.not_all_eq_any_not]
  rw[e6]
  cases decide (r.length<8)<;>cases decide (97≤c.toNat)<;>cases decide (c.toNat≤122)<;>cases (c::r).all lO<;>cases mV.contains (c::r)<;>rfl
theorem oM (s:ac)(hs:s.length≤1048576):vj s=some (gJ s):=by
 unfold vj jq gJ
 simp only[eQ,Option.bind_some,QR,KD]
 cases s with
 | nil=>rfl
 | cons c r=>
  have e1:decide (len (c::r)≥1)=true:=decide_eq_true (by simp[len];omega)
  have e2:decide (len (c::r)≤8)=decide (r.length<8):=by simp only[len,List.length_cons];congr 1;apply propext;omega
  have e3:aI (c::r) (0:Int)=some c:=rfl
  have e4:decide ((c.toNat:Int)<97)=!decide (97≤c.toNat):=by rw[←decide_not];congr 1;apply propext;omega
  have e5:decide ((c.toNat:Int)>122)=!decide (c.toNat≤122):=by rw[←decide_not];congr 1;apply propext;omega
  have hp:∀c:UInt8,(bif decide ((c.toNat:Int)<97) then (bif decide ((c.toNat:Int)<48) then true else decide ((c.toNat:Int)>57)) else (bif decide ((c.toNat:Int)>122) then (bif decide ((c.toNat:Int)<48) then true else decide ((c.toNat:Int)>57)) else false))=!lO c:=by
   intro c
   have f1:decide ((c.toNat:Int)<97)=!decide (97≤c.toNat):=by rw[←decide_not];congr 1;apply propext;omega
   have f2:decide ((c.toNat:Int)>122)=!decide (c.toNat≤122):=by rw[←decide_not];congr 1;apply propext;omega
   have f3:decide ((c.toNat:Int)<48)=!decide (48≤c.toNat):=by rw[←decide_not];congr 1;apply propext;omega
   have f4:decide ((c.toNat:Int)>57)=!decide (c.toNat≤57):=by rw[←decide_not];congr 1;apply propext;omega
   rw[f1,f2,f3,f4]
   unfold lO
   by_cases g1:97≤c.toNat
   ·have g3:48≤c.toNat:=by omega
    have g4:¬c.toNat≤57:=by omega
    simp only[g1,g3,g4,decide_true,decide_false]
    cases decide (c.toNat≤122)<;>rfl
   ·simp only[g1,decide_false]
    cases decide (48≤c.toNat)<;>cases decide (c.toNat≤57)<;>rfl
  rw[e1,e2,e3,vr (r:=false) (L:=yB (c::r)) (a:=c::r) (p:=fun c=>some (!lO c)) (q:=fun c=>!lO c) (fun x _=>rfl) (fun x=>by rw[Xh,pV];simp only[eQ,hp,Option.bind_some]) (by omega)]
  simp only[cond_true,Option.bind_some,e4,e5]
  have e6:((c::r).any fun c=>!lO c)=!((c::r).all lO):=by rw[List.not_all_eq_any_not]
  rw[e6]
  cases decide (r.length<8)<;>cases decide (97≤c.toNat)<;>cases decide (c.toNat≤122)<;>cases (c::r).all lO<;>cases mV.contains (c::r)<;>rfl
theorem jf {ρ υ σ : Type}{L : Nat → σ → Option (ρ ⊕ υ)}(N : Nat)(J : Nat → σ → Prop)(T : ρ ⊕ υ → Prop)(hs : ∀ i s,i < N→J i s→(∃ s',J (i + 1) s' ∧ L i s=L (i + 1) s') ∨ ∃ y,T y ∧ L i s=some y)(he : ∀ s,J N s→∃ y,T y ∧ L N s=some y){s : σ}(h0 : J 0 s) : ∃ y,T y ∧ L 0 s=some y:=by
  have key : ∀ k i s,i + k=N→J i s→∃ y,T y ∧ L i s=some y:=by
    intro k
    induction k with
    | zero => intro i s hi hj; obtain rfl : i = N := by omega
              exact he s hj
    | succ k ih =>
      intro i s hi hj
      rcases hs i s (by omega) hj with ⟨s',h1,h2⟩ | h
      · rw [h2]; exact ih (i + 1) s' (by omega) h1
      · exact h
  exact key N 0 s (by omega) h0
theorem KB {α:Type}{L:Int→Option (Bool⊕Unit)}{a:List α}{f:α→Option Bool}{p:α→Bool}(hf:∀x∈a,f x=some (p x))(hL:∀x,L x=bif decide (x<len a) then (aI a x).bind fun e=>(f e).bind fun r=>bif !r then some (.inl false) else L (aj (x+1)) else some (.inr ()))(hb:a.length<9223372036854775807):L 0=some (if a.all p then .inr () else .inl false):=by
 obtain⟨y,h1,h2⟩:=jf (L:=fun i (_:Unit)=>L (i:Int)) a.length (fun i _=>(a.take i).all p=true) (fun y=>y=if a.all p then .inr () else .inl false) (s:=())
  (by
   intro i _ hi hj
   have hx:=List.getElem?_eq_getElem hi
   rw[show L (i:Int)=_ from hL _,cp,decide_eq_true hi,cond_true,cl,hx,Option.bind_some,hf _ (List.getElem_mem hi),Option.bind_some,dS (by omega)]
   cases hp:p a[i] with
   | true=>
    refine .inl ⟨(),?_,rfl⟩
    rw[List.take_add_one,hx,List.all_append,hj]
    simp[hp]
   | false=>
    refine .inr ⟨_,?_,rfl⟩
    rw[if_neg]
    intro h
    rw[List.all_eq_true] at h
    rw[h _ (List.getElem_mem hi)] at hp
    cases hp)
  (by
   intro _ hj
   refine⟨_,rfl,?_⟩
   rw[List.take_length] at hj
   rw[show L (a.length:Int)=_ from hL _,cp,decide_eq_false (by omega),cond_false,if_pos hj]) (by simp)
 rw[show L 0=some y from h2,h1]
theorem wq {ρ υ α:Type}{q:α→Bool}{y0 y1:ρ⊕υ}:∀{a:List α} {L:Nat→Option (ρ⊕υ)},(∀(i:Nat) x,a[i]?=some x→L i=bif q x then some y0 else L (i+1))→L a.length=some y1→L 0=some (if a.any q then y0 else y1)
 | [],L,_,he=>by simpa using he
 | x::a,L,hL,he=>by
  rw[hL 0 x rfl,wq (a:=a) (L:=fun i=>L (i+1)) (y0:=y0) (y1:=y1) (fun i z hz=>hL (i+1) z (by simpa using hz)) (by simpa using he),List.any_cons]
  cases q x<;>rfl
def rA (c:Condition):Bool:=
 if c.Op=1 then decide (c.Parts.length=0)&&(decide (c.Name=[])&&decide (c.Day=0))
 else if c.Op=2 then decide (c.Parts.length=0)&&(gJ c.Name&&decide (c.Day=0))
 else if c.Op=3 then decide (c.Parts.length=0)&&(decide (c.Name=[])&&eS c.Day 0 36524)
 else if c.Op=4 then decide (c.Parts.length=1)&&(decide (c.Name=[])&&decide (c.Day=0))
 else if c.Op=5∨c.Op=6 then decide (c.Parts.length=2)&&(decide (c.Name=[])&&decide (c.Day=0))
 else false
mutual
def fq:Condition→Bool
 | ⟨a0,a1,a2,a3⟩=>rA ⟨a0,a1,a2,a3⟩&&zT a3
def zT:List Condition→Bool
 | []=>true
 | x::xs=>fq x&&zT xs
end
theorem Bz:∀a,zT a=a.all fq
 | []=>rfl
 | x::xs=>by simp[zT,Bz xs]
theorem tu (c:Condition):fq c=(rA c&&c.Parts.all fq):=by cases c;simp only[fq,Bz]
theorem zV {α:Type}{a:List α}{n:Nat}:(len a==(n:Int))=decide (a.length=n):=by
 rw[vA]
 by_cases h:a.length=n
 ·rw[decide_eq_true h,decide_eq_true];simp only[len];omega
 ·rw[decide_eq_false h,decide_eq_false];simp only[len];omega
theorem Yr (c:Condition)(hn:c.Name.length≤1048576):DA c=some (rA c):=by
 have l0:(len c.Parts==0)=decide (c.Parts.length=0):=zV (n:=0)
 have l1:(len c.Parts==1)=decide (c.Parts.length=1):=zV (n:=1)
 have l2:(len c.Parts==2)=decide (c.Parts.length=2):=zV (n:=2)
 unfold DA rA
 simp only[eQ,oT _ hn,Option.bind_some,sh,mU,l0,l1,l2,Af,vA,Ec]
 by_cases o1:c.Op=1
 ·simp only[o1,decide_true,cond_true,if_true]
 by_cases o2:c.Op=2
 ·rw[decide_eq_false o1,decide_eq_true o2,cond_false,cond_true,if_neg o1,if_pos o2]
  cases decide (c.Parts.length=0)<;>rfl
 by_cases o3:c.Op=3
 ·rw[decide_eq_false o1,decide_eq_false o2,decide_eq_true o3,cond_false,cond_false,cond_true,if_neg o1,if_neg o2,if_pos o3]
  cases decide (c.Parts.length=0)<;>cases decide (c.Name=[])<;>rfl
 by_cases o4:c.Op=4
 ·rw[decide_eq_false o1,decide_eq_false o2,decide_eq_false o3,decide_eq_true o4,if_neg o1,if_neg o2,if_neg o3,if_pos o4]
  rfl
 rw[decide_eq_false o1,decide_eq_false o2,decide_eq_false o3,decide_eq_false o4,if_neg o1,if_neg o2,if_neg o3,if_neg o4]
 by_cases o5:c.Op=5
 ·simp only[o5,decide_true,cond_true,cond_false,true_or,if_true]
 ·by_cases o6:c.Op=6
  ·rw[if_pos (.inr o6),decide_eq_false o5,decide_eq_true o6];rfl
  ·rw[if_neg (by omega),decide_eq_false o5,decide_eq_false o6];rfl
theorem Th (c:Condition):cB c→Kb c=some (fq c):=by
 refine gt (P:=fun c=>cB c→Kb c=some (fq c)) ?_ c
 intro c ih hc
 rw[iw] at hc
 rw[acL]
 unfold uR
 rw[Yr c hc.2.1,Option.bind_some,tu]
 cases rA c with
 | false=>rfl
 | true=>
  have hl:c.Parts.length≤1048576:=hc.2.2.2.1.1
  simp only[Bool.not_true,cond_false,Bool.true_and]
  rw[KB (L:=rY (aN sj) c) (a:=c.Parts) (f:=fun e=>Kb e) (p:=fq) (fun x hx=>ih x hx (hc.2.2.2.1.2 x hx)) (fun x=>by rw[Sf,l4]<;>rfl) (by omega)]
  cases c.Parts.all fq<;>rfl
theorem zX (a:List Condition)(i:Nat)(h:i<a.length):bn (a.take (i+1))=bn (a.take i)+b8 a[i]:=by
 have app:∀(x y:List Condition),bn (x++y)=bn x+bn y:=by
  intro x y
  induction x with
  | nil=>simp[bn]
  | cons z x ih=>simp only[List.cons_append,bn,ih];omega
 rw[List.take_add_one,List.getElem?_eq_getElem h,app]
 simp[bn]
theorem rF (a:List Condition)(i:Nat):bn (a.take i)≤bn a:=by
 have app:∀(x y:List Condition),bn (x++y)=bn x+bn y:=by
  intro x y
  induction x with
  | nil=>simp[bn]
  | cons z x ih=>simp only[List.cons_append,bn,ih];omega
 have:=app (a.take i) (a.drop i)
 rw[List.take_append_drop] at this
 omega
theorem Yu (c:Condition):b8 c≤2000000→NW c=some ((b8 c:Nat):Int):=by
 refine gt (P:=fun c=>b8 c≤2000000→NW c=some ((b8 c:Nat):Int)) ?_ c
 intro c ih hc
 have hc':=gR c
 have hcs:=jj c.Parts
 rw[acO]
 unfold uY
 obtain⟨y,h1,h2⟩:=jf (L:=fun i (s:Int)=>mE (aN l9) c (s,(i:Int))) c.Parts.length (fun i s=>s=((1+bn (c.Parts.take i):Nat):Int)) (fun y=>y=.inr ((b8 c:Nat):Int)) (s:=1)
  (by
   intro i s hi hj
   have hx:=List.getElem?_eq_getElem hi
   have h3:=zX c.Parts i hi
   have h4:=rF c.Parts (i+1)
   refine .inl ⟨((1+bn (c.Parts.take (i+1)):Nat):Int),rfl,?_⟩
   show mE (aN l9) c (s,(i:Int))=_
   rw[HG,kG]
   simp only[cp,decide_eq_true hi,cond_true,cl,hx,Option.bind_some]
   rw[show aN l9 c.Parts[i]=some ((b8 c.Parts[i]:Nat):Int) from ih _ (List.getElem_mem hi) (by omega),Option.bind_some,dS (by omega),hj,iI (by omega) (by omega)]
   congr 2
   omega)
  (by
   intro s hj
   refine⟨_,rfl,?_⟩
   rw[List.take_length] at hj
   show mE (aN l9) c (s,(c.Parts.length:Int))=_
   rw[HG,kG]
   simp only[cp,decide_eq_false (Nat.lt_irrefl _),cond_false]
   rw[hj,hc']) (by simp[bn])
 rw[show mE (aN l9) c (1,0)=some y from h2,h1]
 rfl
def qr (c:Condition):Bool:=fq c&&decide (b8 c≤15)
theorem ah7 {c:Condition}(h:cB c):b8 c≤1048577:=by
 rw[iw] at h
 rw[gR]
 omega
theorem Yp (c:Condition)(h:cB c):DD c=some (qr c):=by
 unfold DD qr
 rw[Th c h,Option.bind_some]
 cases fq c with
 | false=>rfl
 | true=>
  have:=ah7 h
  simp only[cond_true,Bool.true_and]
  rw[Yu c (by omega),Option.bind_some,cn]
  congr 1
  by_cases h:b8 c≤15
  ·rw[decide_eq_true h,decide_eq_true (by omega)]
  ·rw[decide_eq_false h,decide_eq_false (by omega)]
def Pz (op:Int):Nat:=if op=4 then 1 else if op=5∨op=6 then 2 else 0
def Eo (c:Condition):Bool:=eS c.Op 1 6&&decide (c.Parts.length=Pz c.Op)
def Jq (c:Condition):Bool:=((c.Op==2) == !(c.Name==([]:ac)))&&((if c.Op=2 then gJ c.Name else true)&&((if c.Op=3 then true else decide (c.Day=0))&&eS c.Day 0 36524))
theorem mL {x a b:Int}:eS x a b=true↔a≤x∧x≤b:=by simp[eS]
theorem XU (c:Condition):((jq c.Op 1 6).bind fun r20=>ch (ρ:=Int) (bif (!r20) then (some (.inr true)) else ((aI [(-1),0,0,0,1,2,2] c.Op).bind fun e22=>some (.inr ((len c.Parts) != e22)))) fun u21:Bool=>(some (.inr u21):Option (Int⊕Bool)))=some (.inr (!Eo c)):=by
 rw[lD,Option.bind_some]
 unfold Eo
 cases h:eS c.Op 1 6 with
 | false=>rfl
 | true=>
  rw[mL] at h
  have ho:c.Op=1∨c.Op=2∨c.Op=3∨c.Op=4∨c.Op=5∨c.Op=6:=by omega
  have key:aI [(-1),0,0,0,1,2,2] c.Op=some ((Pz c.Op:Nat):Int):=by rcases ho with h | h | h | h | h | h<;>rw[h]<;>rfl
  simp only[Bool.not_true,cond_false,key,Option.bind_some,eP,Bool.true_and,bne,zV]
theorem XV (c:Condition)(hn:c.Name.length≤1048576):(bif (!((c.Op==2)==(!(c.Name==([]:ac))))) then (some (.inr true)) else (ch (ρ:=Int) (bif (c.Op==2) then ((vj c.Name).bind fun r10=>ch (ρ:=Int) (bif (!r10) then (some (.inr true)) else (ch (ρ:=Int) (bif (c.Op != 3) then (ch (ρ:=Int) (bif (c.Day != 0) then (some (.inr true)) else ((pD c.Day).bind fun r14=>some (.inr (!r14)))) fun u13:Bool=>some (.inr u13)) else ((pD c.Day).bind fun r15=>some (.inr (!r15)))) fun u12:Bool=>some (.inr u12))) fun u11:Bool=>some (.inr u11)) else (ch (ρ:=Int) (bif (c.Op != 3) then (ch (ρ:=Int) (bif (c.Day != 0) then (some (.inr true)) else ((pD c.Day).bind fun r18=>some (.inr (!r18)))) fun u17:Bool=>some (.inr u17)) else ((pD c.Day).bind fun r19=>some (.inr (!r19)))) fun u16:Bool=>some (.inr u16))) fun u9:Bool=>(some (.inr u9):Option (Int⊕Bool))))=some (.inr (!Jq c)):=by
 unfold Jq
 simp only[oM _ hn,pD,lD,Option.bind_some,adJ]
 cases ((c.Op==2) == !(c.Name==([]:ac))) with
 | false=>rfl
 | true=>
  simp only[Bool.not_true,cond_false,Bool.true_and]
  by_cases o2:c.Op=2
  ·simp only[o2,if_true,show ((2:Int)==2)=true from rfl,cond_true,show ¬(2:Int)=3 by omega,if_false,decide_false,Bool.not_false]
   cases gJ c.Name<;>by_cases hd:c.Day=0<;>simp[hd]
  ·have:(c.Op==2)=false:=beq_eq_false_iff_ne.2 o2
   rw[this,cond_false,if_neg o2]
   by_cases o3:c.Op=3
   ·simp[o3]
   ·by_cases hd:c.Day=0<;>simp[o3,hd]
theorem wB (c:Condition):rA c=(Eo c&&Jq c):=by
 have name0:c.Name=[]→gJ c.Name=false:=fun h=>by rw[h];rfl
 have d0:c.Day=0→eS c.Day 0 36524=true:=fun h=>by rw[h];rfl
 have in1:eS c.Op 1 6=decide (1≤c.Op∧c.Op≤6):=by rw[Bool.eq_iff_iff,mL,decide_eq_true_iff]
 unfold rA Eo Jq
 rw[in1,show Pz c.Op=if c.Op=4 then 1 else if c.Op=5∨c.Op=6 then 2 else 0 from rfl]
 by_cases hn:c.Name=[]
 ·by_cases hd:c.Day=0
  ·by_cases o1:c.Op=1
   ·simp[o1,hn,hd,eS]
   by_cases o2:c.Op=2
   ·simp[o2,hn,hd,gJ]
   by_cases o3:c.Op=3
   ·simp[o3,hn,hd,eS]
   by_cases o4:c.Op=4
   ·simp[o4,hn,hd,eS]
   by_cases o5:c.Op=5
   ·simp[o5,hn,hd,eS]
   by_cases o6:c.Op=6
   ·simp[o6,hn,hd,eS]
   have:¬(1≤c.Op∧c.Op≤6):=by omega
   simp[o1,o2,o3,o4,o5,o6,decide_eq_false this]
  ·by_cases o3:c.Op=3
   ·simp[o3,hn]
   ·by_cases o2:c.Op=2<;>simp[o2,o3,hd]
 ·have hb:(c.Name==([]:ac))=false:=beq_eq_false_iff_ne.2 hn
  by_cases o2:c.Op=2
  ·by_cases hd:c.Day=0<;>simp[o2,hn,hd,eS,hb]
  ·simp[o2,hn,hb]
theorem SX (c:Condition):cB c→∀so:Nat,so≤15→Xl c (so:Int)=some (if fq c=true∧so+b8 c≤15 then ((so+b8 c:Nat):Int) else -1):=by
 refine gt (P:=fun c=>cB c→∀so:Nat,so≤15→Xl c (so:Int)=some (if fq c=true∧so+b8 c≤15 then ((so+b8 c:Nat):Int) else -1)) ?_ c
 intro c ih hc so hso
 rw[iw] at hc
 have hnc:=gR c
 rw[agH]
 unfold zL
 rw[XU,XV c hc.2.1,dS (by omega),tu,wB]
 by_cases h15:so+1≤15
 ·rw[decide_eq_false (by omega),cond_false]
  cases Eo c with
  | false=>rfl
  | true=>
  cases Jq c with
  | false=>rfl
  | true=>
   simp only[Bool.not_true,cn,cond_false,Bool.true_and]
   obtain⟨y,h1,h2⟩:=jf (L:=fun i (s:Int)=>na (aN nk) c (so:Int) (s,(i:Int))) c.Parts.length
    (fun i s=>s=((so+1+bn (c.Parts.take i):Nat):Int)∧so+1+bn (c.Parts.take i)≤15∧(c.Parts.take i).all fq=true)
    (fun y=>y=if c.Parts.all fq=true∧so+b8 c≤15 then .inr ((so+b8 c:Nat):Int) else .inl (-1)) (s:=((so+1:Nat):Int))
    (by
     rintro i s hi ⟨hj,hj2,hj3⟩
     have hx:=List.getElem?_eq_getElem hi
     have h3:=zX c.Parts i hi
     have h4:=rF c.Parts (i+1)
     have h5:=ih _ (List.getElem_mem hi) (hc.2.2.2.1.2 _ (List.getElem_mem hi)) (so+1+bn (c.Parts.take i)) hj2
     show (∃s',_∧na (aN nk) c (so:Int) (s,(i:Int))=_)∨∃y,_∧na (aN nk) c (so:Int) (s,(i:Int))=_
     rw[Ld,mg]
     simp only[cp,decide_eq_true hi,cond_true,cl,hx,Option.bind_some,hj]
     rw[show aN nk (c.Parts[i],((so+1+bn (c.Parts.take i):Nat):Int))=_ from h5,Option.bind_some,dS (by have:=hc.2.2.2.1.1;omega)]
     by_cases hq:fq c.Parts[i]=true∧so+1+bn (c.Parts.take i)+b8 c.Parts[i]≤15
     ·rw[if_pos hq,decide_eq_false (by omega),cond_false]
      refine .inl ⟨_,⟨?_,?_,?_⟩,rfl⟩
      ·congr 1;omega
      ·omega
      ·rw[List.take_add_one,hx,List.all_append,hj3];simp[hq.1]
     ·rw[if_neg hq,decide_eq_true (by omega),cond_true]
      refine .inr ⟨_,?_,rfl⟩
      rw[if_neg]
      rintro⟨h6,h7⟩
      rw[List.all_eq_true] at h6
      exact hq ⟨h6 _ (List.getElem_mem hi),by omega⟩)
    (by
     rintro s ⟨hj,hj2,hj3⟩
     rw[List.take_length] at *
     show ∃y,_∧na (aN nk) c (so:Int) (s,(c.Parts.length:Int))=_
     rw[Ld,mg]
     simp only[cp,decide_eq_false (Nat.lt_irrefl _),cond_false]
     refine⟨_,?_,rfl⟩
     rw[if_pos ⟨hj3,by omega⟩,hj]
     congr 2;omega) ⟨by simp[bn],by simp[bn];omega,by simp⟩
   rw[show na (aN nk) c (so:Int) (((so+1:Nat):Int),0)=some y from h2,h1]
   by_cases hq:c.Parts.all fq=true∧so+b8 c≤15
   ·rw[if_pos hq,if_pos hq];rfl
   ·rw[if_neg hq,if_neg hq];rfl
 ·rw[decide_eq_true (by omega),cond_true,cn,cond_true,if_neg (by omega)]
theorem XR (c:Condition)(h:cB c):NP c=some (qr c):=by
 unfold NP qr
 rw[show (0:Int)=((0:Nat):Int) from rfl,SX c h 0 (by omega),Option.bind_some]
 have:=gR c
 congr 1
 cases fq c with
 | false=>rfl
 | true=>
  by_cases h:b8 c≤15
  ·rw[if_pos ⟨rfl,by omega⟩,decide_eq_true (by omega),decide_eq_true h];rfl
  ·rw[if_neg (by omega),decide_eq_false h];rfl
mutual
def lm:Condition→List ac
 | ⟨op,name,_,parts⟩=>(if op=2 then [name] else [])++fJ parts
def fJ:List Condition→List ac
 | []=>[]
 | x::xs=>lm x++fJ xs
end
theorem LE (c:Condition):lm c=(if c.Op=2 then [c.Name] else [])++fJ c.Parts:=by cases c;simp only[lm]
theorem BD:∀(a b:List Condition),fJ (a++b)=fJ a++fJ b
 | [],b=>rfl
 | x::a,b=>by simp only[List.cons_append,fJ,BD a b,List.append_assoc]
theorem zc (a:List Condition)(i:Nat)(h:i<a.length):fJ (a.take (i+1))=fJ (a.take i)++lm a[i]:=by
 rw[List.take_add_one,List.getElem?_eq_getElem h,BD]
 simp[fJ]
mutual
theorem Jh:∀c,(lm c).length≤b8 c
 | ⟨op,name,day,parts⟩=>by
  have:=tV parts
  simp only[lm,b8,List.length_append]
  split<;>simp<;>omega
theorem tV:∀a,(fJ a).length≤bn a
 | []=>by simp[fJ]
 | x::a=>by
  have h1:=Jh x
  have h2:=tV a
  simp only[fJ,bn,List.length_append]
  omega
end
theorem S0 (c:Condition):∀l:List ac,l.length+b8 c≤1000000→Xi c l=some (l++lm c):=by
 refine gt (P:=fun c=>∀l:List ac,l.length+b8 c≤1000000→Xi c l=some (l++lm c)) ?_ c
 intro c ih l hl
 have hnc:=gR c
 have hpl:=jj c.Parts
 rw[agG]
 unfold zK
 have h0:(bif (c.Op==2) then ((gP 16 l [c.Name]).bind fun a8=>some (.inr a8)) else (some (.inr l)):Option (List ac⊕List ac))=some (.inr (l++if c.Op=2 then [c.Name] else [])):=by
  rw[vA]
  by_cases h:c.Op=2
  ·rw[decide_eq_true h,cond_true,wr (by omega) (by omega),if_pos h];rfl
  ·rw[decide_eq_false h,cond_false,if_neg h,List.append_nil]
 rw[h0,cn]
 have hlen:(l++if c.Op=2 then [c.Name] else []).length≤l.length+1:=by
  rw[List.length_append];split<;>simp
 rw[LE,←List.append_assoc]
 generalize (l++if c.Op=2 then [c.Name] else [])=l1 at hlen ⊢
 obtain⟨y,h1,h2⟩:=jf (L:=fun i (s:List ac)=>o9 (aN o8) c l ((i:Int),s)) c.Parts.length (fun i s=>s=l1++fJ (c.Parts.take i)) (fun y=>y=.inr (l1++fJ c.Parts)) (s:=l1)
  (by
   intro i s hi hj
   have hx:=List.getElem?_eq_getElem hi
   have h3:=zX c.Parts i hi
   have h4:=rF c.Parts (i+1)
   have h5:=tV (c.Parts.take i)
   refine .inl ⟨l1++fJ (c.Parts.take (i+1)),rfl,?_⟩
   show o9 (aN o8) c l ((i:Int),s)=_
   rw[Lb,mf]
   simp only[cp,decide_eq_true hi,cond_true,cl,hx,Option.bind_some]
   rw[show aN o8 (c.Parts[i],s)=_ from ih _ (List.getElem_mem hi) s (by rw[hj,List.length_append];omega),Option.bind_some,dS (by omega),hj,zc _ _ hi,List.append_assoc])
  (by
   intro s hj
   refine⟨_,rfl,?_⟩
   rw[List.take_length] at hj
   show o9 (aN o8) c l ((c.Parts.length:Int),s)=_
   rw[Lb,mf]
   simp only[cp,decide_eq_false (Nat.lt_irrefl _),cond_false]
   rw[hj]) (by simp[fJ])
 rw[show o9 (aN o8) c l (0,l1)=some y from h2,h1]
 rfl
theorem SQ {c:Condition}(h:rA c=true)(ho:c.Op=2∨c.Op=3):c.Parts=[]:=by
 rw[wB,Eo,Pz] at h
 rw[Bool.and_eq_true,Bool.and_eq_true,decide_eq_true_iff] at h
 have:=h.1.2
 rw[if_neg (by omega),if_neg (by omega)] at this
 exact List.length_eq_zero_iff.1 this
theorem Ti (c:Condition):fq c=true→∀l:List ac,l.length+b8 c≤1000000→l.Pairwise StrL.Lt→∃r,NT l c=some r∧r.Pairwise StrL.Lt∧(∀x,x∈r↔x∈l∨x∈lm c)∧r.length≤l.length+b8 c:=by
 refine gt (P:=fun c=>fq c=true→∀l:List ac,l.length+b8 c≤1000000→l.Pairwise StrL.Lt→∃r,NT l c=some r∧r.Pairwise StrL.Lt∧(∀x,x∈r↔x∈l∨x∈lm c)∧r.length≤l.length+b8 c) ?_ c
 intro c ih hf l hl hs
 have hnc:=gR c
 have hpl:=jj c.Parts
 rw[tu,Bool.and_eq_true,List.all_eq_true] at hf
 rw[acN]
 unfold uU
 rw[vA,LE]
 by_cases ho:c.Op=2
 ·obtain⟨r,e,r1,r2,r3⟩:=StrL.put_val l c.Name (by omega) hs
  rw[decide_eq_true ho,cond_true,e,if_pos ho,SQ hf.1 (.inl ho)]
  exact⟨r,rfl,r1,fun x=>by rw[r2];simp[fJ],by omega⟩
 rw[decide_eq_false ho,cond_false,if_neg ho,List.nil_append]
 obtain⟨y,h1,h2⟩:=jf (L:=fun i (s:List ac)=>mD (aN l7) l c ((i:Int),s)) c.Parts.length
  (fun i s=>s.Pairwise StrL.Lt∧(∀x,x∈s↔x∈l∨x∈fJ (c.Parts.take i))∧s.length≤l.length+bn (c.Parts.take i))
  (fun y=>∃r,y=.inr r∧r.Pairwise StrL.Lt∧(∀x,x∈r↔x∈l∨x∈fJ c.Parts)∧r.length≤l.length+b8 c) (s:=l)
  (by
   rintro i s hi ⟨j1,j2,j3⟩
   have hx:=List.getElem?_eq_getElem hi
   have h3:=zX c.Parts i hi
   have h4:=rF c.Parts (i+1)
   obtain⟨r,e,r1,r2,r3⟩:=ih _ (List.getElem_mem hi) (hf.2 _ (List.getElem_mem hi)) s (by omega) j1
   refine .inl ⟨r,⟨r1,fun x=>?_,by omega⟩,?_⟩
   ·rw[r2,j2,zc _ _ hi,List.mem_append,or_assoc]
   show mD (aN l7) l c ((i:Int),s)=_
   rw[HA,kF]
   simp only[cp,decide_eq_true hi,cond_true,cl,hx,Option.bind_some]
   rw[show aN l7 (s,c.Parts[i])=_ from e,Option.bind_some,dS (by omega)])
  (by
   rintro s ⟨j1,j2,j3⟩
   rw[List.take_length] at *
   refine⟨.inr s,⟨s,rfl,j1,j2,by omega⟩,?_⟩
   show mD (aN l7) l c ((c.Parts.length:Int),s)=_
   rw[HA,kF]
   simp only[cp,decide_eq_false (Nat.lt_irrefl _),cond_false]) ⟨hs,fun x=>by simp[fJ],by simp[bn]⟩
 obtain⟨r,rfl,hr⟩:=h1
 rw[show mD (aN l7) l c (0,l)=some (.inr r) from h2]
 exact⟨r,rfl,hr⟩
theorem yP (l:List ac)(s:ac)(hl:l.length≤1048576):oV l s=some (l.contains s):=by
 unfold oV xN
 rw[js (L:=pO l s) (a:=l) (p:=fun e=>some (s==e)) (q:=fun e=>s==e) (fun _ _=>rfl) (fun x=>by rw[vW,kz]<;>rfl) (by omega)]
 cases h:l.findIdx? (fun e=>s==e) with
 | none=>
  have:l.contains s=false:=by
   rw[List.findIdx?_eq_none_iff] at h
   rw[Bool.eq_false_iff]
   intro hc
   rw[List.contains_iff_exists_mem_beq] at hc
   obtain⟨w,hw,he⟩:=hc
   rw[h w hw] at he
   cases he
  rw[this]
  rfl
 | some i=>
  have:l.contains s=true:=by
   rw[List.findIdx?_eq_some_iff_getElem] at h
   obtain⟨hi,he,_⟩:=h
   rw[List.contains_iff_exists_mem_beq]
   exact⟨_,List.getElem_mem hi,he⟩
  rw[this]
  simp
theorem aaV (a b:ac):(a==b)=(b==a):=by
 rw[Af,Af]
 by_cases h:a=b
 ·simp[h]
 ·simp[h,Ne.symm h]
theorem Ro (l:List ac)(s:ac)(hl:l.length≤1048576):qY l s=some (l.contains s):=by
 unfold qY
 rw[vr (L:=rZ l s) (a:=l) (p:=fun e=>some (e==s)) (q:=fun e=>e==s) (r:=true) (fun _ _=>rfl) (fun x=>by rw[Hv,l5]<;>rfl) (by omega)]
 have:(l.any fun e=>e==s)=l.contains s:=by
  rw[List.contains_eq_any_beq]
  congr 1
  funext e
  exact aaV e s
 rw[this]
 cases l.contains s<;>rfl
def aaT (l:List ac)(k:Nat):Bool:=match l[k]? with
 | some e=>!gJ e||(l.take k).contains e
 | none=>false
def zk (l:List ac):Nat→Nat→Bool
 | 0,_=>true
 | n+1,k=>!aaT l k&&zk l n (k+1)
theorem Ey {α:Type}{l:List α}{k:Nat}(h:k≤l.length):lH l 0 (k:Int)=some (l.take k):=by
 unfold lH
 rw[if_pos (by omega)]
 simp
theorem BN (l:List ac)(cs:List Clause)(hl:jp oS l):∀(n k:Nat),k+n=l.length→vd ⟨l,cs⟩ (k:Int)=some (bif zk l n k then .inr () else .inl false)
 | 0,k,hk=>by
  have h1:=hl.1
  rw[HX,mc]
  simp only[cp]
  rw[decide_eq_false (by omega)]
  rfl
 | n+1,k,hk=>by
  have h1:=hl.1
  obtain⟨e,he⟩:∃e,l[k]?=some e:=⟨_,List.getElem?_eq_getElem (by omega)⟩
  rw[HX,mc]
  simp only[cp]
  rw[decide_eq_true (by omega)]
  simp only[cond_true,cl,he,Option.bind_some,oT e (hl.2 e (List.mem_of_getElem? he)),Ey (show k≤l.length by omega),Ro _ e (show (l.take k).length≤1048576 by rw[List.length_take];omega)]
  rw[dS (by omega),BN l cs hl n (k+1) (by omega)]
  simp only[zk,aaT,he]
  cases gJ e<;>cases (l.take k).contains e<;>rfl
theorem BC (l:List ac)(hl:jp oS l):∀(n k:Nat),k+n=l.length→yC l (k:Int)=some (bif zk l n k then .inr () else .inl false)
 | 0,k,hk=>by
  have h1:=hl.1
  rw[Lc,nC]
  simp only[cp]
  rw[decide_eq_false (by omega)]
  rfl
 | n+1,k,hk=>by
  have h1:=hl.1
  obtain⟨e,he⟩:∃e,l[k]?=some e:=⟨_,List.getElem?_eq_getElem (by omega)⟩
  rw[Lc,nC]
  simp only[cp]
  rw[decide_eq_true (by omega)]
  simp only[cond_true,cl,he,Option.bind_some,oM e (hl.2 e (List.mem_of_getElem? he)),Ey (show k≤l.length by omega),yP _ e (show (l.take k).length≤1048576 by rw[List.length_take];omega)]
  rw[dS (by omega),BC l hl n (k+1) (by omega)]
  simp only[zk,aaT,he]
  cases gJ e<;>cases (l.take k).contains e<;>rfl
def rL (l:List ac):Bool:=zk l l.length 0&&eS (len l) 2 4
theorem abG (l:List ac)(cs:List Clause)(hl:jp oS l):yx ⟨l,cs⟩=some (rL l):=by
 unfold yx rL
 have:=BN l cs hl l.length 0 (by omega)
 rw[show (0:Int)=((0:Nat):Int) by rfl,this]
 simp only[mU]
 cases zk l l.length 0<;>rfl
theorem abf (l:List ac)(hl:jp oS l):Oa l=some (rL l):=by
 unfold Oa rL
 have:=BC l hl l.length 0 (by omega)
 rw[show (0:Int)=((0:Nat):Int) by rfl,this]
 simp only[lD]
 cases zk l l.length 0<;>rfl
def kR (cs:List Clause)(id:ac):Int:=match cs.findIdx? (fun e=>e.Id==id) with
 | some i=>(i:Int)
 | none=>-1
theorem LT (c:Contract)(id:ac)(hl:c.Clauses.length≤1048576):wd c id=some (kR c.Clauses id):=by
 unfold wd kR
 rw[js (L:=vb c id) (a:=c.Clauses) (p:=fun e=>some (e.Id==id)) (q:=fun e=>e.Id==id) (fun _ _=>rfl) (fun x=>by rw[Si,oz]<;>rfl) (by omega)]
 cases c.Clauses.findIdx? (fun e=>e.Id==id)<;>rfl
theorem Ly (c:Contract)(id:ac)(hl:c.Clauses.length≤1048576):ID c id=some (kR c.Clauses id):=by
 unfold ID JZ kR
 rw[js (L:=uB c.Clauses id) (a:=c.Clauses) (p:=fun e=>some (e.Id==id)) (q:=fun e=>e.Id==id) (fun _ _=>rfl) (fun x=>by rw[R6,oa]<;>rfl) (by omega)]
 cases c.Clauses.findIdx? (fun e=>e.Id==id)<;>rfl
theorem Ri (cs:List Clause)(id:ac):kR cs id=-1∨∃j:Nat,kR cs id=(j:Int)∧j<cs.length:=by
 unfold kR
 cases h:cs.findIdx? (fun e=>e.Id==id) with
 | none=>exact .inl rfl
 | some j=>
  rw[List.findIdx?_eq_some_iff_getElem] at h
  exact .inr ⟨j,rfl,h.1⟩
def Pr (cs:List Clause)(i:Int)(e:Clause):Bool:=match kR cs e.Repair with
 | .ofNat k=>match cs[k]? with
  | some e'=>((k:Int) != i)&&((e'.Kind==1)&&(e.Kind != 3))
  | none=>false
 | .negSucc _=>false
def lA (c:Contract)(i:Int)(e:Clause):Bool:=
 gJ e.Id&&(gJ e.Action&&(eS e.Kind 1 4&&(eS e.Party 0 (aj (len c.Parties - 1))&&(eS e.Other 0 (aj (len c.Parties - 1))&&(!(e.Party==e.Other)&&(qr e.When&&(eS e.Amount 0 1000000&&(eS e.Within 0 400&&(!(bif e.Kind != 1 then (bif e.Amount != 0 then true else e.Within != 0) else false) &&
  (bif e.Repair==[] then true else Pr c.Clauses i e))))))))))
theorem abH (c:Contract)(i:Int)(e:Clause)(hl:c.Clauses.length≤1048576):((wd c e.Repair).bind fun r8=>be (ρ:=Bool) (bif (decide (r8≥0)) then (ch (ρ:=Bool) (bif (r8 != i) then ((aI c.Clauses r8).bind fun e11=>cz (bif (e11.Kind==1) then ((e.Kind != 3)) else (false)) fun u12:Bool=>some (.inr u12)) else (some (.inr false))) fun u10:Bool=>some (.inr u10)) else (some (.inr false))) fun u9:Bool=>some u9)=some (Pr c.Clauses i e):=by
 rw[LT c _ hl,Option.bind_some]
 unfold Pr
 rcases Ri c.Clauses e.Repair with h | ⟨j,h,hj⟩
 ·rw[h];rfl
 ·rw[h,decide_eq_true (by omega),cond_true,cl,List.getElem?_eq_getElem hj,Option.bind_some]
  show _=some (match c.Clauses[j]? with | some e'=>_ | none=>false)
  rw[List.getElem?_eq_getElem hj]
  show _=some (((j:Int) != i)&&((c.Clauses[j].Kind==1)&&(e.Kind != 3)))
  cases ((j:Int) != i)<;>cases (c.Clauses[j].Kind==1)<;>rfl
theorem abg (c:Contract)(i:Int)(e:Clause)(hl:c.Clauses.length≤1048576):((ID c e.Repair).bind fun r10=>be (ρ:=Bool) (bif (e.Kind != 3) then (ch (ρ:=Bool) (bif (decide (r10≥0)) then (ch (ρ:=Bool) (bif (r10 != i) then ((aI c.Clauses r10).bind fun e14=>some (.inr (e14.Kind==1))) else (some (.inr false))) fun u13:Bool=>some (.inr u13)) else (some (.inr false))) fun u12:Bool=>some (.inr u12)) else (some (.inr false))) fun u11:Bool=>some u11)=some (Pr c.Clauses i e):=by
 rw[Ly c _ hl,Option.bind_some]
 unfold Pr
 rcases Ri c.Clauses e.Repair with h | ⟨j,h,hj⟩
 ·rw[h];cases (e.Kind != 3)<;>rfl
 ·rw[h,decide_eq_true (by omega),cond_true,cl,List.getElem?_eq_getElem hj,Option.bind_some]
  show _=some (match c.Clauses[j]? with | some e'=>_ | none=>false)
  rw[List.getElem?_eq_getElem hj]
  show _=some (((j:Int) != i)&&((c.Clauses[j].Kind==1)&&(e.Kind != 3)))
  cases ((j:Int) != i)<;>cases (c.Clauses[j].Kind==1)<;>cases (e.Kind != 3)<;>rfl
theorem QQ (c:Contract)(i:Int)(e:Clause)(he:aI c.Clauses i=some e)(hs:iH e)(hl:c.Clauses.length≤1048576):DJ c i=some (lA c i e):=by
 unfold DJ lA
 rw[he,Option.bind_some,abH c i e hl]
 simp only[oT _ hs.1,oT _ hs.2.2.2.1,mU,Yp _ hs.2.2.2.2.2.2.1,Option.bind_some,eQ]
 cases gJ e.Id with | false=>rfl | true=>?_
 cases gJ e.Action with | false=>rfl | true=>?_
 cases eS e.Kind 1 4 with | false=>rfl | true=>?_
 cases eS e.Party 0 (aj (len c.Parties - 1)) with | false=>rfl | true=>?_
 cases eS e.Other 0 (aj (len c.Parties - 1)) with | false=>rfl | true=>?_
 cases (e.Party==e.Other) with | true=>rfl | false=>?_
 cases qr e.When with | false=>rfl | true=>?_
 cases eS e.Amount 0 1000000 with | false=>rfl | true=>?_
 cases eS e.Within 0 400 with | false=>rfl | true=>?_
 cases (bif e.Kind != 1 then (bif e.Amount != 0 then true else e.Within != 0) else false) with | true=>rfl | false=>?_
 cases (e.Repair==([]:ac))<;>rfl
theorem QJ (c:Contract)(i:Int)(e:Clause)(he:aI c.Clauses i=some e)(hs:iH e)(hl:c.Clauses.length≤1048576):Oe c i=some ((kR c.Clauses e.Id==i)&&lA c i e):=by
 unfold Oe lA
 rw[he,Option.bind_some,abg c i e hl]
 simp only[oM _ hs.1,oM _ hs.2.2.2.1,lD,XR _ hs.2.2.2.2.2.2.1,Option.bind_some,eQ,Ly c _ hl,bne]
 cases gJ e.Id with | false=>cases (kR c.Clauses e.Id==i)<;>rfl | true=>?_
 cases (kR c.Clauses e.Id==i) with | false=>rfl | true=>?_
 cases gJ e.Action with | false=>rfl | true=>?_
 cases eS e.Kind 1 4 with | false=>rfl | true=>?_
 cases eS e.Party 0 (aj (len c.Parties - 1)) with | false=>rfl | true=>?_
 cases eS e.Other 0 (aj (len c.Parties - 1)) with | false=>rfl | true=>?_
 cases (e.Party==e.Other) with | true=>rfl | false=>?_
 cases qr e.When with | false=>rfl | true=>?_
 cases eS e.Amount 0 1000000 with | false=>rfl | true=>?_
 cases eS e.Within 0 400 with | false=>rfl | true=>?_
 cases (bif !(e.Kind==1) then (bif !(e.Amount==0) then true else !(e.Within==0)) else false) with | true=>rfl | false=>?_
 cases (e.Repair==([]:ac))<;>rfl
def tZ (c:Contract)(i:Nat):Bool:=match c.Clauses[i]? with
 | some e=>(kR c.Clauses e.Id==(i:Int))&&lA c (i:Int) e
 | none=>true
def jP (c:Contract):Bool:=!((List.range c.Clauses.length).any fun i=>!tZ c i)
theorem sD {c:Contract}:jP c=true↔∀(i:Nat) e,c.Clauses[i]?=some e→kR c.Clauses e.Id=(i:Int)∧lA c (i:Int) e=true:=by
 unfold jP
 rw[Bool.not_eq_true',←Bool.not_eq_true,List.any_eq_true]
 constructor
 ·intro h i e he
  have hi:=(List.getElem?_eq_some_iff.1 he).1
  cases h1:tZ c i with
  | false=>exact absurd ⟨i,List.mem_range.2 hi,by rw[h1];rfl⟩ h
  | true=>
   simp only[tZ,he,Bool.and_eq_true,beq_iff_eq] at h1
   exact h1
 ·rintro h ⟨i,hi,h2⟩
  rw[List.mem_range] at hi
  have h1:=h i _ (List.getElem?_eq_getElem hi)
  simp only[tZ,List.getElem?_eq_getElem hi,h1.1,h1.2,beq_self_eq_true,Bool.and_self,Bool.not_true] at h2
  cases h2
theorem Pw (c:Contract)(hc:fN c):mF c 0=some (bif jP c then .inr () else .inl false):=by
 have hl:c.Clauses.length≤1048576:=hc.2.1
 have h:=wq (a:=List.range c.Clauses.length) (q:=fun i=>!tZ c i) (y0:=(Sum.inl false:Bool⊕Unit)) (y1:=.inr ()) (L:=fun i=>mF c (i:Int))
  (fun i x hx=>by
   obtain⟨hi,hx'⟩:=List.getElem?_eq_some_iff.1 hx
   rw[List.getElem_range] at hx'
   subst hx'
   rw[List.length_range] at hi
   have he:=List.getElem?_eq_getElem hi
   have hg:aI c.Clauses (i:Int)=some c.Clauses[i]:=by rw[cl,he]
   show mF c (i:Int)=_
   rw[HQ,ma,cp,decide_eq_true hi,cond_true,hg,Option.bind_some,LT c _ hl,Option.bind_some,QQ c _ _ hg (hc.2.2 _ (List.getElem_mem hi)) hl,dS (by omega)]
   simp only[tZ,he,bne]
   cases (kR c.Clauses c.Clauses[i].Id==(i:Int))<;>cases lA c (i:Int) c.Clauses[i]<;>rfl)
  (by
   rw[List.length_range]
   show mF c (c.Clauses.length:Int)=_
   rw[HQ,ma,cp,decide_eq_false (Nat.lt_irrefl _),cond_false])
 rw[show mF c 0=_ from h]
 unfold jP
 cases (List.range c.Clauses.length).any fun i=>!tZ c i<;>rfl
theorem O3 (c:Contract)(hc:fN c):o7 c 0=some (bif jP c then .inr () else .inl false):=by
 have hl:c.Clauses.length≤1048576:=hc.2.1
 have h:=wq (a:=List.range c.Clauses.length) (q:=fun i=>!tZ c i) (y0:=(Sum.inl false:Bool⊕Unit)) (y1:=.inr ()) (L:=fun i=>o7 c (i:Int))
  (fun i x hx=>by
   obtain⟨hi,hx'⟩:=List.getElem?_eq_some_iff.1 hx
   rw[List.getElem_range] at hx'
   subst hx'
   rw[List.length_range] at hi
   have he:=List.getElem?_eq_getElem hi
   have hg:aI c.Clauses (i:Int)=some c.Clauses[i]:=by rw[cl,he]
   show o7 c (i:Int)=_
   rw[K9,nB,cp,decide_eq_true hi,cond_true,QJ c _ _ hg (hc.2.2 _ (List.getElem_mem hi)) hl,Option.bind_some,dS (by omega)]
   simp only[tZ,he])
  (by
   rw[List.length_range]
   show o7 c (c.Clauses.length:Int)=_
   rw[K9,nB,cp,decide_eq_false (Nat.lt_irrefl _),cond_false])
 rw[show o7 c 0=_ from h]
 unfold jP
 cases (List.range c.Clauses.length).any fun i=>!tZ c i<;>rfl
def kt (cs:List Clause):List ac:=cs.flatMap fun e=>e.Action::lm e.When
theorem yM {c:Contract}{i:Int}{e:Clause}(h:lA c i e=true):qr e.When=true:=by
 simp only[lA,Bool.and_eq_true] at h
 exact h.2.2.2.2.2.2.1
theorem tW (cs:List Clause)(i:Nat)(h:i<cs.length):kt (cs.take (i+1))=kt (cs.take i)++(cs[i].Action::lm cs[i].When):=by
 unfold kt
 rw[List.take_add_one,List.getElem?_eq_getElem h,List.flatMap_append]
 simp
theorem El (c:Contract)(hc:fN c)(h12:c.Clauses.length≤12)(hv:jP c=true):∃r,pS c=some r∧vm c=some r∧r.Pairwise StrL.Lt∧(∀x,x∈r↔x∈kt c.Clauses)∧r.length≤1000:=by
 have hcond:∀i (hi:i<c.Clauses.length),fq c.Clauses[i].When=true∧b8 c.Clauses[i].When≤15:=fun i hi=>by
  have h1:=yM (sD.1 hv i _ (List.getElem?_eq_getElem hi)).2
  unfold qr at h1
  rw[Bool.and_eq_true,decide_eq_true_iff] at h1
  exact h1
 have hs:∃r,pS c=some r∧r.Pairwise StrL.Lt∧(∀x,x∈r↔x∈kt c.Clauses)∧r.length≤16*c.Clauses.length:=by
  obtain⟨y,⟨r,rfl,hr⟩,h2⟩:=jf (L:=fun i (s:List ac)=>oB c ((i:Int),s)) c.Clauses.length
   (fun i s=>s.Pairwise StrL.Lt∧(∀x,x∈s↔x∈kt (c.Clauses.take i))∧s.length≤16*i)
   (fun y=>∃r,y=.inr r∧r.Pairwise StrL.Lt∧(∀x,x∈r↔x∈kt c.Clauses)∧r.length≤16*c.Clauses.length) (s:=[])
   (by
    rintro i s hi ⟨j1,j2,j3⟩
    have he:=List.getElem?_eq_getElem hi
    obtain⟨f1,f2⟩:=hcond i hi
    obtain⟨r1,e1,p1,m1,l1⟩:=StrL.put_val s c.Clauses[i].Action (by omega) j1
    obtain⟨r2,e2,p2,m2,l2⟩:=Ti _ f1 r1 (by omega) p1
    refine .inl ⟨r2,⟨p2,fun x=>?_,by omega⟩,?_⟩
    ·rw[m2,m1,j2,tW _ _ hi,List.mem_append,List.mem_cons,or_assoc]
    ·show oB c ((i:Int),s)=_
     rw[HT,mb]
     simp only[cp,decide_eq_true hi,cond_true,cl,he,Option.bind_some,e1,e2]
     rw[dS (by omega)])
   (by
    rintro s ⟨j1,j2,j3⟩
    rw[List.take_length] at j2
    refine⟨.inr s,⟨s,rfl,j1,j2,j3⟩,?_⟩
    show oB c ((c.Clauses.length:Int),s)=_
    rw[HT,mb]
    simp only[cp,decide_eq_false (Nat.lt_irrefl _),cond_false]) ⟨List.Pairwise.nil,fun x=>by simp[kt],by simp⟩
  refine⟨r,?_,hr⟩
  unfold pS
  rw[show oB c (0,[])=some (.inr r) from h2]
  rfl
 obtain⟨r,e,p,m,l⟩:=hs
 refine⟨r,e,?_,p,m,by omega⟩
 obtain⟨y,h1,h2⟩:=jf (L:=fun i (s:List ac)=>qJ c ((i:Int),s)) c.Clauses.length
  (fun i s=>s=kt (c.Clauses.take i)∧s.length≤16*i) (fun y=>y=.inr (kt c.Clauses)∧(kt c.Clauses).length≤16*c.Clauses.length) (s:=[])
  (by
   rintro i s hi ⟨j1,j2⟩
   have he:=List.getElem?_eq_getElem hi
   obtain⟨f1,f2⟩:=hcond i hi
   have hlen:=Jh c.Clauses[i].When
   refine .inl ⟨kt (c.Clauses.take (i+1)),⟨rfl,?_⟩,?_⟩
   ·rw[tW _ _ hi,←j1,List.length_append,List.length_cons];omega
   ·show qJ c ((i:Int),s)=_
    rw[Lg,nE]
    simp only[cp,decide_eq_true hi,cond_true,cl,he,Option.bind_some]
    rw[wr (by omega) (by omega),Option.bind_some,S0 _ _ (by rw[List.length_append,List.length_singleton];omega),Option.bind_some,dS (by omega),tW _ _ hi,←j1,List.append_assoc]
    try rfl)
  (by
   rintro s ⟨j1,j2⟩
   rw[List.take_length] at j1
   refine⟨_,⟨rfl,by rw[←j1];exact j2⟩,?_⟩
   show qJ c ((c.Clauses.length:Int),s)=_
   rw[Lg,nE]
   simp only[cp,decide_eq_false (Nat.lt_irrefl _),cond_false]
   rw[j1]) ⟨by simp[kt],by simp⟩
 unfold vm
 rw[show qJ c (0,[])=some y from h2,h1.1,cn,YS _ r (by omega) p m]
 rfl
noncomputable def jD (c:Contract):Bool:=(eS (len c.Clauses) 1 12&&rL c.Parties)&&(jP c&&(match pS c with | some r=>decide (len r≤16) | none=>false))
theorem xk (c:Contract)(hc:fN c):DN c=some (jD c):=by
 unfold DN jD
 have hp:=abG c.Parties c.Clauses hc.1
 rw[mU,show yx c=_ from hp,Pw c hc,Option.bind_some]
 cases h1:eS (len c.Clauses) 1 12 with | false=>rfl | true=>?_
 cases rL c.Parties with | false=>rfl | true=>?_
 cases h2:jP c with | false=>rfl | true=>?_
 rw[mL] at h1
 obtain⟨r,e,_⟩:=El c hc (by simp only[len] at h1;omega) h2
 rw[e]
 rfl
theorem xg (c:Contract)(hc:fN c):N7 c=some (jD c):=by
 unfold N7 jD
 rw[abf c.Parties hc.1,O3 c hc,Option.bind_some,lD]
 cases h1:eS (len c.Clauses) 1 12 with | false=>cases rL c.Parties<;>rfl | true=>?_
 cases rL c.Parties with | false=>rfl | true=>?_
 cases h2:jP c with | false=>rfl | true=>?_
 rw[mL] at h1
 obtain⟨r,e,e2,_⟩:=El c hc (by simp only[len] at h1;omega) h2
 rw[e,e2]
 rfl
theorem yQ {c:Contract}(h:jD c=true):1≤c.Clauses.length∧c.Clauses.length≤12∧rL c.Parties=true∧∀(i:Nat) e,c.Clauses[i]?=some e→kR c.Clauses e.Id=(i:Int)∧lA c (i:Int) e=true:=by
 simp only[jD,Bool.and_eq_true,mL] at h
 obtain⟨⟨⟨h1,h2⟩,h3⟩,h4,_⟩:=h
 simp only[len] at h1 h2
 exact⟨by omega,by omega,h3,sD.1 h4⟩
theorem XW {α:Type}(l:List α)(i:Int)(hl:l.length≤1048576):eS i 0 (aj (len l - 1))=(aI l i).isSome:=by
 unfold len
 rw[iI (by omega) (by omega)]
 unfold eS aI
 by_cases h0:0≤i
 ·rw[if_pos h0,decide_eq_true h0,Bool.true_and]
  by_cases h1:i≤(l.length:Int) - 1
  ·rw[decide_eq_true h1,List.getElem?_eq_getElem (by omega)];rfl
  ·rw[decide_eq_false h1,List.getElem?_eq_none (by omega)];rfl
 ·rw[if_neg h0,decide_eq_false h0];rfl
theorem yL {α:Type}{L:Int→Option (Int⊕Unit)}{a:List α}{q:α→Bool}(h:L 0=some (match a.findIdx? q with | some i=>.inl (i:Int) | none=>.inr ())):((be (ρ:=Int) (L 0) fun _:Unit=>some (-1)).bind fun r=>some (decide (r≥0)))=some (a.any q):=by
 rw[h]
 cases h1:a.findIdx? q with
 | none=>
  have:a.any q=false:=by
   rw[List.findIdx?_eq_none_iff] at h1
   rw[List.any_eq_false]
   intro x hx
   rw[h1 x hx]
   exact Bool.false_ne_true
  rw[this]
  rfl
 | some i=>
  have:a.any q=true:=by
   rw[List.findIdx?_eq_some_iff_getElem] at h1
   obtain⟨hi,he,_⟩:=h1
   rw[List.any_eq_true]
   exact⟨_,List.getElem_mem hi,he⟩
  rw[this]
  simp
def vE (l:List ac)(k:Nat):Bool:=match l[k]? with
 | some e=>gJ e&&(match k with
  | 0=>true
  | j+1=>match l[j]? with
   | some p=>Op.bytesLess p e
   | none=>true)
 | none=>true
def pk (l:List ac):Bool:=decide (l.length≤16) && !((List.range l.length).any fun k=>!vE l k)
theorem ag1 (a b:ac):(Op.bytesLess b a||b==a)=!Op.bytesLess a b:=by
 rcases StrL.tri a b with h | h | h
 ·have h2:Op.bytesLess b a=false:=Bool.eq_false_iff.2 fun h3=>StrL.Lt.asymm h h3
  have h3:(b==a)=false:=beq_eq_false_iff_ne.2 fun e=>StrL.Lt.ne h e.symm
  rw[h2,h3,show Op.bytesLess a b=true from h];rfl
 ·subst h
  rw[StrL.lt_irrefl,beq_self_eq_true];rfl
 ·have h2:Op.bytesLess a b=false:=Bool.eq_false_iff.2 fun h3=>StrL.Lt.asymm h h3
  rw[h2,show Op.bytesLess b a=true from h];rfl
theorem xl (l:List ac)(hl:jp oS l)(k:Nat)(hk:k<l.length)(hk16:k≤16):jr l (k:Int)=bif !vE l k then some (.inl false) else jr l ((k+1:Nat):Int):=by
 have he:=List.getElem?_eq_getElem hk
 have hlen:l.length≤1048576:=hl.1
 rw[wb,kE,cp,decide_eq_true hk,cond_true,decide_eq_true (by omega),eQ,cond_true,cl,he,Option.bind_some,oT _ (hl.2 _ (List.getElem_mem hk)),Option.bind_some,dS (by omega)]
 cases k with
 | zero=>
  simp only[vE,he]
  cases gJ l[0]<;>rfl
 | succ j=>
  have hj:j<l.length:=by omega
  rw[decide_eq_true (by omega),cond_true,show aj (((j+1:Nat):Int) - 1)=(j:Int) by rw[iI (by omega) (by omega)];omega,cl,List.getElem?_eq_getElem hj,Option.bind_some]
  simp only[vE,he,List.getElem?_eq_getElem hj,Option.bind_some]
  cases gJ l[j+1]<;>cases Op.bytesLess l[j] l[j+1]<;>rfl
theorem LX (l:List ac)(hl:jp oS l)(k:Nat)(hk:k<l.length):pb l (k:Int)=bif !vE l k then some (.inl false) else pb l ((k+1:Nat):Int):=by
 have he:=List.getElem?_eq_getElem hk
 have hlen:l.length≤1048576:=hl.1
 rw[Lh,nF,cp,decide_eq_true hk,cond_true,cl,he,Option.bind_some,oM _ (hl.2 _ (List.getElem_mem hk)),Option.bind_some,dS (by omega)]
 cases k with
 | zero=>
  simp only[vE,he]
  cases gJ l[0]<;>rfl
 | succ j=>
  have hj:j<l.length:=by omega
  rw[decide_eq_true (by omega),cond_true,show aj (((j+1:Nat):Int) - 1)=(j:Int) by rw[iI (by omega) (by omega)];omega,cl,List.getElem?_eq_getElem hj,Option.bind_some,ag1]
  simp only[vE,he,List.getElem?_eq_getElem hj]
  cases gJ l[j+1]<;>cases Op.bytesLess l[j] l[j+1]<;>rfl
theorem qS {L:Nat→Option (Bool⊕Unit)}{n:Nat}{q:Nat→Bool}(hs:∀k,k<n→L k=bif q k then some (.inl false) else L (k+1))(he:L n=some (.inr ())):L 0=some (if (List.range n).any q then .inl false else .inr ()):=by
 refine wq (a:=List.range n) (q:=q) (y0:=(Sum.inl false:Bool⊕Unit)) (y1:=.inr ()) (L:=L) (fun i x hx=>?_) (by rw[List.length_range];exact he)
 obtain⟨hi,hx'⟩:=List.getElem?_eq_some_iff.1 hx
 rw[List.getElem_range] at hx'
 subst hx'
 rw[List.length_range] at hi
 exact hs i hi
theorem SY (l:List ac)(hl:jp oS l):Ol l=some (pk l):=by
 have hlen:l.length≤1048576:=hl.1
 have h:=qS (L:=fun k=>pb l (k:Int)) (n:=l.length) (q:=fun k=>!vE l k) (fun k hk=>LX l hl k hk) (by
  show pb l (l.length:Int)=_
  rw[Lh,nF,cp,decide_eq_false (Nat.lt_irrefl _),cond_false])
 unfold Ol
 rw[show pb l 0=_ from h]
 unfold pk
 have h16:decide (len l≤16)=decide (l.length≤16):=by
  have:(len l≤16)↔l.length≤16:=by unfold len;omega
  simp only[this]
 cases (List.range l.length).any fun k=>!vE l k<;>simp[h16]
theorem Tf (l:List ac)(hl:jp oS l):Dy l=some (pk l):=by
 have hlen:l.length≤1048576:=hl.1
 have h16:decide (len l≤16)=decide (l.length≤16):=by
  have:(len l≤16)↔l.length≤16:=by unfold len;omega
  simp only[this]
 unfold Dy
 by_cases hm:l.length≤16
 ·have h:=qS (L:=fun k=>jr l (k:Int)) (n:=l.length) (q:=fun k=>!vE l k) (fun k hk=>xl l hl k hk (by omega)) (by
   show jr l (l.length:Int)=_
   rw[wb,kE,cp,decide_eq_false (Nat.lt_irrefl _),cond_false,eQ,cond_false])
  rw[show jr l 0=_ from h]
  unfold pk
  cases (List.range l.length).any fun k=>!vE l k<;>simp[h16]
 ·have h:=qS (L:=fun k=>jr l (k:Int)) (n:=17) (q:=fun k=>!vE l k) (fun k hk=>xl l hl k (by omega) (by omega)) (by
   show jr l ((17:Nat):Int)=_
   rw[wb,kE,cp]
   by_cases h17:17<l.length
   ·rw[decide_eq_true h17];rfl
   ·rw[decide_eq_false h17];rfl)
  rw[show jr l 0=_ from h]
  unfold pk
  rw[h16,decide_eq_false hm]
  cases (List.range 17).any fun k=>!vE l k<;>rfl
def yR (c:Contract)(i:ac):Bool:=c.Clauses.any fun x=>x.Repair==i
theorem abF (c:Contract)(i:Int)(e:Clause)(he:aI c.Clauses i=some e)(hl:c.Clauses.length≤1048576):DL c i=some (yR c e.Id):=by
 unfold DL
 rw[vr (L:=va c i) (a:=c.Clauses) (p:=fun x=>some (x.Repair==e.Id)) (q:=fun x=>x.Repair==e.Id) (r:=true) (fun _ _=>rfl) (fun x=>by rw[Sh,ox];simp only[he,Option.bind_some]) (by omega)]
 unfold yR
 cases c.Clauses.any fun x=>x.Repair==e.Id<;>rfl
theorem abe (c:Contract)(i:Int)(e:Clause)(he:aI c.Clauses i=some e)(hl:c.Clauses.length≤1048576):Oi c i=some (yR c e.Id):=by
 unfold Oi JT J0
 rw[yL (js (L:=uC c.Clauses (c,i)) (a:=c.Clauses) (p:=fun x=>Oj x c i) (q:=fun x=>x.Repair==e.Id) (fun x _=>by rw[Oj,he];rfl) (fun x=>by rw[R7,ob]) (by omega))]
 rfl
theorem abE (s:State)(i:Int)(hl:s.Duties.length≤1048576):DR s i=some ((s.Duties.countP (fun d=>d.Clause==i):Nat):Int):=by
 unfold DR
 obtain⟨y,rfl,h⟩:=jf (L:=fun k (n:Int)=>mG s i (n,(k:Int))) s.Duties.length (fun k n=>n=(((s.Duties.take k).countP (fun d=>d.Clause==i):Nat):Int)) (fun y=>y=.inr ((s.Duties.countP (fun d=>d.Clause==i):Nat):Int)) (s:=0)
  (by
   rintro k n hk rfl
   have hx:=List.getElem?_eq_getElem hk
   refine .inl ⟨_,rfl,?_⟩
   show mG s i (_,(k:Int))=mG s i (_,((k+1:Nat):Int))
   rw[H1,md]
   simp only[cp,decide_eq_true hk,cond_true,cl,hx,Option.bind_some,eQ]
   rw[show aj ((k:Int)+1)=((k+1:Nat):Int) from dS (by omega)]
   have h1:(s.Duties.take (k+1)).countP (fun d=>d.Clause==i)=(s.Duties.take k).countP (fun d=>d.Clause==i)+if (s.Duties[k].Clause==i)=true then 1 else 0:=by
    rw[List.take_add_one,hx,List.countP_append,Option.toList_some,List.countP_singleton]
   have h2:=List.countP_le_length (l:=s.Duties.take k) (p:=fun d=>d.Clause==i)
   rw[List.length_take] at h2
   rw[h1]
   cases h3:s.Duties[k].Clause==i with
   | false=>simp
   | true=>rw[cond_true,iI (by omega) (by omega)];simp)
  (by
   rintro n rfl
   refine⟨_,rfl,?_⟩
   show mG s i (_,(s.Duties.length:Int))=_
   rw[H1,md]
   simp only[cp,decide_eq_false (Nat.lt_irrefl _),cond_false,List.take_length]) (by simp)
 rw[show mG s i (0,0)=_ from h]
 rfl
def rM (D:List Duty)(k:Nat)(d:Duty):Bool:=match k with
 | 0=>false
 | j+1=>match D[j]? with
  | some p=>decide (p.Since>d.Since)
  | none=>false
def nz (s:State)(d:Duty):Bool:=bif d.Status==1 then (decide (d.Due≥s.Day) && !s.Over) else bif d.Status==2 then true else bif d.Status==3 then decide (d.Due<s.Day) else bif d.Status==4 then s.Over else false
def clB (s:State)(d:Duty)(e:Clause):Bool:=(e.Kind==1)&&(eS d.Since 0 s.Day&&((d.Due==aj (d.Since+e.Within))&&eS d.Due 0 36524))
def wv (c:Contract)(s:State)(k:Nat)(d:Duty):Bool:=match aI c.Clauses d.Clause with
 | some e=>clB s d e&&(!rM s.Duties k d&&nz s d)
 | none=>false
def wx (c:Contract)(i:Int):Bool:=match aI c.Clauses i with
 | some e=>yR c e.Id
 | none=>false
theorem ah8 {s:State}{d:Duty}(h:nz s d=true):eS d.Status 1 4=true:=by
 unfold nz at h
 rw[mL]
 cases h1:d.Status==1 with
 | true=>have:=eq_of_beq h1;omega
 | false=>
  cases h2:d.Status==2 with
  | true=>have:=eq_of_beq h2;omega
  | false=>
   cases h3:d.Status==3 with
   | true=>have:=eq_of_beq h3;omega
   | false=>
    cases h4:d.Status==4 with
    | true=>have:=eq_of_beq h4;omega
    | false=>rw[h1,h2,h3,h4] at h;cases h
theorem ahb (s:State)(d:Duty)(h:eS d.Status 1 4=true):(bif d.Status==1 then (bif decide (d.Due<s.Day) then true else (bif s.Over then true else (bif d.Status==3 then (bif decide (d.Due≥s.Day) then true else (bif d.Status==4 then !s.Over else false)) else (bif d.Status==4 then !s.Over else false)))) else (bif d.Status==3 then (bif decide (d.Due≥s.Day) then true else (bif d.Status==4 then !s.Over else false)) else (bif d.Status==4 then !s.Over else false)))=!nz s d:=by
 rw[mL] at h
 unfold nz
 have hd:decide (d.Due≥s.Day)=!decide (d.Due<s.Day):=by
  by_cases h2:d.Due<s.Day
  ·rw[decide_eq_true h2,decide_eq_false (by omega)];rfl
  ·rw[decide_eq_false h2,decide_eq_true (by omega)];rfl
 rw[hd]
 generalize decide (d.Due<s.Day)=x
 have h4:d.Status=1∨d.Status=2∨d.Status=3∨d.Status=4:=by omega
 rcases h4 with h4 | h4 | h4 | h4<;>rw[h4]<;>cases x<;>cases s.Over<;>rfl
theorem Yq (c:Contract)(s:State)(k:Nat)(hk:k<s.Duties.length)(hl:s.Duties.length≤1048576)(hc:c.Clauses.length≤1048576) :
  DT c s (k:Int)=some (wv c s k s.Duties[k]&&(wx c s.Duties[k].Clause||s.Duties.countP (fun d=>d.Clause==s.Duties[k].Clause)==1)):=by
 have he:=List.getElem?_eq_getElem hk
 unfold DT
 rw[cl,he,Option.bind_some]
 have hp:∀(f:Bool→Option (Bool⊕Bool)) (g:Duty→Option (Bool⊕Bool)) ,(∀p,g p=f (decide (p.Since>s.Duties[k].Since)))→(bif decide ((k:Int)>0) then ((aI s.Duties (aj ((k:Int) - 1))).bind g) else f false)=f (rM s.Duties k s.Duties[k]):=by
  intro f g hg
  cases k with
  | zero=>rfl
  | succ j=>
   have hj:j<s.Duties.length:=by omega
   rw[decide_eq_true (by omega),cond_true,show aj (((j+1:Nat):Int) - 1)=(j:Int) by rw[iI (by omega) (by omega)];omega,cl,List.getElem?_eq_getElem hj,Option.bind_some,hg]
   simp only[rM,List.getElem?_eq_getElem hj]
 generalize s.Duties[k]=d at *
 rw[mU,Option.bind_some,XW _ _ hc]
 unfold wv
 cases hg:aI c.Clauses d.Clause with
 | none=>rfl
 | some e=>
  rw[Option.isSome_some]
  simp only[Bool.not_true,cond_false,Option.bind_some,mU,sh]
  unfold clB
  cases h1:e.Kind==1 with
  | false=>rw[bne,h1];rfl
  | true=>
   rw[bne,h1]
   cases h2:eS d.Since 0 s.Day with
   | false=>rfl
   | true=>
    cases h3:d.Due==aj (d.Since+e.Within) with
    | false=>rw[bne,h3];rfl
    | true=>
     rw[bne,h3]
     cases h4:eS d.Due 0 36524 with
     | false=>rfl
     | true=>
      cases h5:eS d.Status 1 4 with
      | false=>
       have:nz s d=false:=Bool.eq_false_iff.2 fun h=>by rw[ah8 h] at h5;cases h5
       rw[this]
       simp
      | true=>
       simp only[Bool.not_true,cond_false,eP,cn,eQ,ahb s d h5]
       rw[show (bif decide ((k:Int)>0) then (aI s.Duties (aj ((k:Int) - 1))).bind (fun e11=>(some (.inr (bif decide (e11.Since>d.Since) then true else !nz s d)):Option (Bool⊕Bool))) else some (.inr (!nz s d)))=some (.inr (bif rM s.Duties k d then true else !nz s d)) from hp (fun b=>some (.inr (bif b then true else !nz s d))) _ (fun p=>rfl)]
       rw[cn]
       rw[show wx c d.Clause=yR c e.Id by unfold wx;rw[hg],abF c _ e hg hc,abE s _ hl]
       have hcn:∀n:Nat,((n:Int)==1)=(n==1):=fun n=>by
        by_cases h:n=1
        ·subst h;rfl
        ·rw[beq_eq_false_iff_ne.2 h,beq_eq_false_iff_ne.2 (by omega)]
       simp only[Option.bind_some,hcn]
       generalize (List.countP (fun d_1=>d_1.Clause==d.Clause) s.Duties==1)=z
       cases rM s.Duties k d<;>cases nz s d<;>cases yR c e.Id<;>cases z<;>rfl
def tq (D:List Duty)(k:Nat)(i:Int):Bool:=(D.take k).any fun o=>o.Clause==i
theorem XS (c:Contract)(s:State)(k:Nat)(hk:k<s.Duties.length)(hl:s.Duties.length≤1048576)(hc:c.Clauses.length≤1048576) :
  Ok c s (k:Int)=some (wv c s k s.Duties[k]&&(wx c s.Duties[k].Clause || !tq s.Duties k s.Duties[k].Clause)):=by
 have he:=List.getElem?_eq_getElem hk
 unfold Ok
 rw[cl,he,Option.bind_some]
 have hp:∀(f:Bool→Option (Bool⊕Bool)) (g:Duty→Option (Bool⊕Bool)) ,(∀p,g p=f (decide (p.Since>s.Duties[k].Since)))→(bif decide ((k:Int)>0) then ((aI s.Duties (aj ((k:Int) - 1))).bind g) else f false)=f (rM s.Duties k s.Duties[k]):=by
  intro f g hg
  cases k with
  | zero=>rfl
  | succ j=>
   have hj:j<s.Duties.length:=by omega
   rw[decide_eq_true (by omega),cond_true,show aj (((j+1:Nat):Int) - 1)=(j:Int) by rw[iI (by omega) (by omega)];omega,cl,List.getElem?_eq_getElem hj,Option.bind_some,hg]
   simp only[rM,List.getElem?_eq_getElem hj]
 generalize s.Duties[k]=d at *
 rw[lD,Option.bind_some,XW _ _ hc]
 unfold wv
 cases hg:aI c.Clauses d.Clause with
 | none=>rfl
 | some e=>
  rw[Option.isSome_some]
  simp only[Bool.not_true,cond_false,Option.bind_some,lD,pD]
  unfold clB
  cases h1:e.Kind==1 with
  | false=>rw[bne,h1];rfl
  | true=>
   rw[bne,h1]
   cases h2:eS d.Since 0 s.Day with
   | false=>rfl
   | true=>
    cases h3:d.Due==aj (d.Since+e.Within) with
    | false=>rw[bne,h3];rfl
    | true=>
     rw[bne,h3]
     cases h4:eS d.Due 0 36524 with
     | false=>rfl
     | true=>
      simp only[Bool.not_true,cond_false,eP,cn]
      rw[show (bif decide ((k:Int)>0) then (aI s.Duties (aj ((k:Int) - 1))).bind (fun e17=>(some (.inr (decide (d.Since<e17.Since))):Option (Bool⊕Bool))) else some (.inr false))=some (.inr (rM s.Duties k d)) from hp (fun b=>some (.inr b)) _ (fun p=>rfl)]
      simp only[eP,cn]
      cases rM s.Duties k d with
      | true=>rfl
      | false=>
       rw[cond_false,abe c _ e hg hc,Option.bind_some,Ey (by omega),Option.bind_some]
       unfold JV J2
       rw[yL (js (L:=uE (s.Duties.take k) d) (a:=s.Duties.take k) (p:=fun x=>Rb x d) (q:=fun o=>o.Clause==d.Clause) (fun x _=>rfl) (fun x=>by rw[R9,od]) (by rw[List.length_take];omega))]
       rw[show wx c d.Clause=yR c e.Id by unfold wx;rw[hg]]
       unfold tq nz
       cases yR c e.Id<;>cases ((s.Duties.take k).any fun o=>o.Clause==d.Clause)<;>cases (d.Status==1)<;>cases (d.Status==2)<;>cases (d.Status==3)<;>cases (d.Status==4)<;>cases s.Over<;>cases decide (d.Due≥s.Day)<;>cases decide (d.Due<s.Day)<;>rfl
def qw (c:Contract)(s:State)(k:Nat):Bool:=match s.Duties[k]? with
 | some d=>wv c s k d&&(wx c d.Clause||s.Duties.countP (fun o=>o.Clause==d.Clause)==1)
 | none=>true
def rB (c:Contract)(s:State)(k:Nat):Bool:=match s.Duties[k]? with
 | some d=>wv c s k d&&(wx c d.Clause || !tq s.Duties k d.Clause)
 | none=>true
theorem Lp (D:List Duty)(k:Nat)(hk:k<D.length)(p:Duty→Bool):D.countP p=(D.take k).countP p+((if p D[k]=true then 1 else 0)+(D.drop (k+1)).countP p):=by
 conv=>lhs;rw[←List.take_append_drop k D,List.drop_eq_getElem_cons hk]
 rw[List.countP_append,List.countP_cons]
 omega
theorem XG (c:Contract)(s:State):((List.range s.Duties.length).any fun k=>!qw c s k)=((List.range s.Duties.length).any fun k=>!rB c s k):=by
 have key:(∀k,k<s.Duties.length→qw c s k=true)↔(∀k,k<s.Duties.length→rB c s k=true):=by
  constructor
  ·intro h k hk
   have h1:=h k hk
   unfold qw at h1
   unfold rB
   rw[List.getElem?_eq_getElem hk] at h1 ⊢
   simp only[Bool.and_eq_true,Bool.or_eq_true,beq_iff_eq] at h1 ⊢
   refine⟨h1.1,h1.2.imp id fun h2=>?_⟩
   have h3:=Lp s.Duties k hk (fun o=>o.Clause==s.Duties[k].Clause)
   rw[if_pos (by simp),h2] at h3
   have h4:(s.Duties.take k).countP (fun o=>o.Clause==s.Duties[k].Clause)=0:=by omega
   rw[List.countP_eq_zero] at h4
   rw[Bool.not_eq_true',tq,List.any_eq_false]
   exact h4
  ·intro h k hk
   have h1:=h k hk
   unfold rB at h1
   unfold qw
   rw[List.getElem?_eq_getElem hk] at h1 ⊢
   simp only[Bool.and_eq_true,Bool.or_eq_true,beq_iff_eq] at h1 ⊢
   refine⟨h1.1,?_⟩
   cases hd:wx c s.Duties[k].Clause with
   | true=>exact .inl rfl
   | false=>
    refine .inr ?_
    have h2:tq s.Duties k s.Duties[k].Clause=false:=by
     rcases h1.2 with h2 | h2
     ·rw[hd] at h2;cases h2
     ·simpa using h2
    rw[Lp s.Duties k hk (fun o=>o.Clause==s.Duties[k].Clause),if_pos (by simp)]
    have e1:(s.Duties.take k).countP (fun o=>o.Clause==s.Duties[k].Clause)=0:=by
     rw[List.countP_eq_zero]
     rw[tq,List.any_eq_false] at h2
     exact h2
    have e2:(s.Duties.drop (k+1)).countP (fun o=>o.Clause==s.Duties[k].Clause)=0:=by
     rw[List.countP_eq_zero]
     intro x hx hq
     obtain⟨j,hj,rfl⟩:=List.mem_iff_getElem.1 hx
     rw[List.length_drop] at hj
     rw[List.getElem_drop] at hq
     have h5:=h (k+1+j) (by omega)
     unfold rB at h5
     rw[List.getElem?_eq_getElem (by omega)] at h5
     simp only[Bool.and_eq_true,Bool.or_eq_true] at h5
     rw[beq_iff_eq] at hq
     rw[hq,hd] at h5
     have h6:tq s.Duties (k+1+j) s.Duties[k].Clause=true:=by
      rw[tq,List.any_eq_true]
      refine⟨s.Duties[k],?_,by simp⟩
      rw[List.mem_iff_getElem]
      exact⟨k,by rw[List.length_take];omega,by rw[List.getElem_take]⟩
     rw[h6] at h5
     simp at h5
    omega
 rw[Bool.eq_iff_iff,List.any_eq_true,List.any_eq_true]
 have k2:=not_congr key
 simp only[Classical.not_forall] at k2
 simp only[List.mem_range,Bool.not_eq_true']
 constructor
 ·rintro⟨k,hk,hq⟩
  obtain⟨j,hj,hq2⟩:=k2.1 ⟨k,hk,by simp[hq]⟩
  exact⟨j,hj,by simpa using hq2⟩
 ·rintro⟨k,hk,hq⟩
  obtain⟨j,hj,hq2⟩:=k2.2 ⟨k,hk,by simp[hq]⟩
  exact⟨j,hj,by simpa using hq2⟩
def wo (x:Int):Bool:=eS x (-1000000000) 1000000000
theorem ahd (l:List Int)(hl:l.length≤1048576):∃v,wa l=some v∧xp l=some v:=by
 have h:∃v,lx l (0,0)=some (.inr v):=by
  obtain⟨y,⟨v,rfl⟩,h⟩:=jf (L:=fun k (n:Int)=>lx l (n,(k:Int))) l.length (fun k n=>True) (fun y=>∃v,y=.inr v) (s:=0)
   (by
    intro k n hk _
    refine .inl ⟨aj (n+l[k]),trivial,?_⟩
    show lx l (_,(k:Int))=lx l (_,((k+1:Nat):Int))
    rw[Hg,l3]
    simp only[cp,decide_eq_true hk,cond_true,cl,List.getElem?_eq_getElem hk,Option.bind_some]
    rw[show aj ((k:Int)+1)=((k+1:Nat):Int) from dS (by omega)])
   (by
    intro n _
    refine⟨.inr n,⟨n,rfl⟩,?_⟩
    show lx l (_,(l.length:Int))=_
    rw[Hg,l3]
    simp only[cp,decide_eq_false (Nat.lt_irrefl _),cond_false]) trivial
  exact⟨v,h⟩
 obtain⟨v,h⟩:=h
 refine⟨v,?_,?_⟩
 ·unfold wa;rw[h];rfl
 ·unfold xp;rw[show JP l (0,0)=lx l (0,0) from rfl,h];rfl
structure StF (c:Contract) (s:State) (names:List ac):Prop where
 day:eS s.Day 0 36524=true
 facts:pk s.Facts=true
 sub:s.Facts.all (fun f=>names.contains f)=true
 dl:s.Duties.length≤24
 bl:s.Balances.length=c.Parties.length
 dut:∀k,k<s.Duties.length→qw c s k=true
 amt:s.Balances.all wo=true
 sum:wa s.Balances=some 0
noncomputable def zt (c:Contract)(s:State)(names:List ac)(v:Int):Bool:=
 eS s.Day 0 36524&&(pk s.Facts&&(decide (s.Duties.length≤24)&&((s.Balances.length==c.Parties.length)&&(s.Facts.all (fun f=>names.contains f)&&(!((List.range s.Duties.length).any fun k=>!qw c s k)&&(s.Balances.all wo&&v==0))))))
theorem Tj (c:Contract)(s:State)(hc:fN c)(hs:jW s)(hb:jD c=true){names:List ac}(hn:pS c=some names)(hnl:names.length≤1048576){v:Int}(hv:wa s.Balances=some v):ss c s=some (zt c s names v):=by
 have hdl:s.Duties.length≤1048576:=hs.2.2.1.1
 have hbl:s.Balances.length≤1048576:=hs.2.2.2.1.1
 have hfl:s.Facts.length≤1048576:=hs.2.1.1
 have hcl:c.Clauses.length≤1048576:=hc.2.1
 unfold ss zt
 rw[xk c hc,Option.bind_some,hb]
 simp only[Bool.not_true,cond_false]
 rw[show sh s.Day=some (eS s.Day 0 36524) by unfold sh;rw[mU];rfl,Option.bind_some]
 cases eS s.Day 0 36524 with
 | false=>rfl
 | true=>
  simp only[Bool.not_true,cond_false]
  rw[Tf _ hs.2.1,Option.bind_some]
  cases pk s.Facts with
  | false=>rfl
  | true=>
   simp only[Bool.not_true,cond_false,eQ]
   have h24:decide (len s.Duties>24)=!decide (s.Duties.length≤24):=by
    by_cases h:s.Duties.length≤24
    ·rw[decide_eq_true h,decide_eq_false (by unfold len;omega)];rfl
    ·rw[decide_eq_false h,decide_eq_true (by unfold len;omega)];rfl
   rw[h24]
   cases decide (s.Duties.length≤24) with
   | false=>rfl
   | true=>
    have hbe:(len s.Balances != len c.Parties)=!(s.Balances.length==c.Parties.length):=by
     unfold len
     by_cases h:s.Balances.length=c.Parties.length
     ·rw[h,bne,beq_self_eq_true,beq_self_eq_true]
     ·rw[bne,beq_eq_false_iff_ne.2 h,beq_eq_false_iff_ne.2 (by omega)]
    simp only[Bool.not_true,cond_false]
    rw[hbe]
    cases s.Balances.length==c.Parties.length with
    | false=>rfl
    | true=>
     simp only[Bool.not_true,cond_false,eP,cn]
     rw[hn,Option.bind_some]
     rw[KB (L:=vf c s names) (a:=s.Facts) (f:=fun e=>qY names e) (p:=fun f=>names.contains f) (fun x _=>Ro names x hnl) (fun x=>by rw[Sj,oC]) (by omega)]
     cases s.Facts.all (fun f=>names.contains f) with
     | false=>rfl
     | true=>
      rw[if_pos rfl,cn]
      have h:=qS (L:=fun k=>oD c s (k:Int)) (n:=s.Duties.length) (q:=fun k=>!qw c s k) (fun k hk=>by
       show oD c s (k:Int)=_
       rw[H6,me,cp,decide_eq_true hk,cond_true,Yq c s k hk hdl hcl,Option.bind_some,dS (by omega)]
       unfold qw
       rw[List.getElem?_eq_getElem hk]) (by
       show oD c s (s.Duties.length:Int)=_
       rw[H6,me,cp,decide_eq_false (Nat.lt_irrefl _),cond_false])
      rw[show oD c s 0=_ from h]
      cases (List.range s.Duties.length).any fun k=>!qw c s k with
      | true=>rfl
      | false=>
       rw[if_neg Bool.false_ne_true,cn]
       rw[KB (L:=vg c s) (a:=s.Balances) (f:=Dv) (p:=wo) (fun x _=>by unfold Dv;rw[mU];rfl) (fun x=>by rw[Sk,oE]) (by omega)]
       cases s.Balances.all wo with
       | false=>rfl
       | true=>
        rw[if_pos rfl,cn,hv]
        rfl
theorem S1 (c:Contract)(s:State)(hc:fN c)(hs:jW s){names:List ac}(hn:vm c=some names)(hnl:names.length≤1048576){v:Int}(hv:xp s.Balances=some v):Om c s=some (zt c s names v):=by
 have hdl:s.Duties.length≤1048576:=hs.2.2.1.1
 have hbl:s.Balances.length≤1048576:=hs.2.2.2.1.1
 have hfl:s.Facts.length≤1048576:=hs.2.1.1
 have hcl:c.Clauses.length≤1048576:=hc.2.1
 unfold Om zt
 rw[hn,Option.bind_some]
 rw[show pD s.Day=some (eS s.Day 0 36524) by unfold pD;rw[lD];rfl,Option.bind_some]
 cases eS s.Day 0 36524 with
 | false=>rfl
 | true=>
  simp only[Bool.not_true,cond_false]
  rw[SY _ hs.2.1,Option.bind_some]
  cases pk s.Facts with
  | false=>rfl
  | true=>
   simp only[Bool.not_true,cond_false]
   unfold JY J6
   rw[yL (js (L:=uH s.Facts names) (a:=s.Facts) (p:=fun x=>BV x names) (q:=fun f=>!names.contains f) (fun x _=>by rw[BV,yP names x hnl];rfl) (fun x=>by rw[Sc,ol]) (by omega))]
   have ha:(s.Facts.any fun f=>!names.contains f)=!(s.Facts.all fun f=>names.contains f):=by rw[List.not_all_eq_any_not]
   rw[ha,Option.bind_some]
   have h24:decide (len s.Duties>24)=!decide (s.Duties.length≤24):=by
    by_cases h:s.Duties.length≤24
    ·rw[decide_eq_true h,decide_eq_false (by unfold len;omega)];rfl
    ·rw[decide_eq_false h,decide_eq_true (by unfold len;omega)];rfl
   have hbe:(len s.Balances != len c.Parties)=!(s.Balances.length==c.Parties.length):=by
    unfold len
    by_cases h:s.Balances.length=c.Parties.length
    ·rw[h,bne,beq_self_eq_true,beq_self_eq_true]
    ·rw[bne,beq_eq_false_iff_ne.2 h,beq_eq_false_iff_ne.2 (by omega)]
   rw[h24,hbe]
   cases s.Facts.all (fun f=>names.contains f) with
   | false=>cases decide (s.Duties.length≤24)<;>cases s.Balances.length==c.Parties.length<;>rfl
   | true=>
    simp only[Bool.not_true,eP,cn,cond_false]
    cases decide (s.Duties.length≤24) with
    | false=>rfl
    | true=>
     cases s.Balances.length==c.Parties.length with
     | false=>rfl
     | true=>
      simp only[Bool.not_true,cond_false,eP,cn,hv,Option.bind_some]
      have h:=qS (L:=fun k=>qK c s (k:Int)) (n:=s.Duties.length) (q:=fun k=>!rB c s k) (fun k hk=>by
       show qK c s (k:Int)=_
       rw[Li,nG,cp,decide_eq_true hk,cond_true,XS c s k hk hdl hcl,Option.bind_some,dS (by omega)]
       unfold rB
       rw[List.getElem?_eq_getElem hk]) (by
       show qK c s (s.Duties.length:Int)=_
       rw[Li,nG,cp,decide_eq_false (Nat.lt_irrefl _),cond_false])
      rw[show qK c s 0=_ from h,XG]
      unfold JX J5
      rw[yL (js (L:=uG s.Balances ()) (a:=s.Balances) (p:=fun x=>BX x) (q:=fun b=>!wo b) (fun x _=>by rw[BX,Ra,lD];rfl) (fun x=>by rw[Sb,oh]) (by omega))]
      have hb2:(s.Balances.any fun b=>!wo b)=!(s.Balances.all wo):=by rw[List.not_all_eq_any_not]
      rw[hb2]
      cases hv0:v==0 with
      | false=>
       rw[bne,hv0]
       cases (List.range s.Duties.length).any fun k=>!rB c s k<;>cases s.Balances.all wo<;>rfl
      | true=>
       rw[bne,hv0]
       cases (List.range s.Duties.length).any fun k=>!rB c s k<;>cases s.Balances.all wo<;>rfl
theorem ahc (c:Contract)(s:State)(hc:fN c)(hs:jW s):∃b,ss c s=some b∧La c s=some b∧(b=true→jD c=true∧∃names,pS c=some names∧vm c=some names∧StF c s names):=by
 cases hb:jD c with
 | false=>
  refine⟨false,?_,?_,by simp⟩
  ·unfold ss;rw[xk c hc,Option.bind_some,hb];rfl
  ·unfold La;rw[xg c hc,Option.bind_some,hb];rfl
 | true=>
  obtain⟨f1,f2,f3,f4⟩:=yQ hb
  obtain⟨names,n1,n2,n3,n4⟩:=El c hc f2 (sD.2 f4)
  obtain⟨v,v1,v2⟩:=ahd s.Balances hs.2.2.2.1.1
  have hnl:names.length≤1048576:=Nat.le_trans n4.2 (by decide)
  refine⟨_,Tj c s hc hs hb n1 hnl v1,?_,fun h=>⟨rfl,names,n1,n2,?_⟩⟩
  ·unfold La
   rw[xg c hc,Option.bind_some,hb,cond_true,S1 c s hc hs n2 hnl v2]
   rfl
  ·unfold zt at h
   simp only[Bool.and_eq_true,decide_eq_true_eq,beq_iff_eq,Bool.not_eq_true'] at h
   obtain⟨g1,g2,g3,g4,g5,g6,g7,g8⟩:=h
   refine⟨g1,g2,g5,g3,g4,fun k hk=>?_,g7,by rw[v1,g8]⟩
   rw[List.any_eq_false] at g6
   have:=g6 k (List.mem_range.2 hk)
   simpa using this
theorem aa9 {c:Condition}(h:rA c=true):(c.Op=1∧c.Parts=[])∨(c.Op=2∧c.Parts=[])∨(c.Op=3∧c.Parts=[])∨(c.Op=4∧∃p,c.Parts=[p])∨(c.Op=5∧∃p q,c.Parts=[p,q])∨(c.Op=6∧∃p q,c.Parts=[p,q]):=by
 rw[wB,Eo,Pz] at h
 rw[Bool.and_eq_true,Bool.and_eq_true,decide_eq_true_iff,mL] at h
 obtain⟨⟨⟨h1,h2⟩,h3⟩,_⟩:=h
 have ho:c.Op=1∨c.Op=2∨c.Op=3∨c.Op=4∨c.Op=5∨c.Op=6:=by omega
 have two:∀{a:List Condition},a.length=2→∃p q,a=[p,q]:=fun {a} h=>by
  match a,h with
  | [p,q],_=>exact⟨p,q,rfl⟩
 have one:∀{a:List Condition},a.length=1→∃p,a=[p]:=fun {a} h=>by
  match a,h with
  | [p],_=>exact⟨p,rfl⟩
 rcases ho with h | h | h | h | h | h<;>simp only[h] at h3 ⊢
 ·exact .inl ⟨trivial,List.length_eq_zero_iff.1 (by simpa using h3)⟩
 ·exact .inr (.inl ⟨trivial,List.length_eq_zero_iff.1 (by simpa using h3)⟩)
 ·exact .inr (.inr (.inl ⟨trivial,List.length_eq_zero_iff.1 (by simpa using h3)⟩))
 ·exact .inr (.inr (.inr (.inl ⟨trivial,one (by simpa using h3)⟩)))
 ·exact .inr (.inr (.inr (.inr (.inl ⟨trivial,two (by simpa using h3)⟩))))
 ·exact .inr (.inr (.inr (.inr (.inr ⟨trivial,two (by simpa using h3)⟩))))
theorem OG (a:List ac)(s:ac)(ha:a.length≤1048576):oV a s=some (a.contains s):=by
 unfold oV xN
 rw[js (L:=pO a s) (a:=a) (p:=fun e=>some (s==e)) (q:=fun e=>s==e) (fun _ _=>rfl) (fun x=>by rw[vW,kz]<;>rfl) (by omega)]
 cases h:a.findIdx? (fun e=>s==e) with
 | none=>
  have:a.contains s=false:=by
   rw[List.findIdx?_eq_none_iff] at h
   rw[Bool.eq_false_iff]
   intro hc
   rw[List.contains_iff_exists_mem_beq] at hc
   obtain⟨w,hw,he⟩:=hc
   rw[h w hw] at he
   cases he
  rw[this]
  rfl
 | some i=>
  have:a.contains s=true:=by
   rw[List.findIdx?_eq_some_iff_getElem] at h
   obtain⟨hi,he,_⟩:=h
   rw[List.contains_iff_exists_mem_beq]
   exact⟨_,List.getElem_mem hi,he⟩
  rw[this]
  simp
theorem adI (a:List ac)(s:ac)(ha:a.length≤1048576):qY a s=some (a.contains s):=by
 unfold qY
 rw[vr (L:=rZ a s) (a:=a) (p:=fun e=>some (e==s)) (r:=true) (q:=fun e=>e==s) (fun x _=>rfl) (fun x=>by rw[Hv,l5]<;>rfl) (by omega)]
 have:a.any (fun e=>e==s)=a.contains s:=by
  rw[List.contains_eq_any_beq]
  congr 1
  funext e
  exact Bool.beq_comm
 rw[this]
 cases a.contains s<;>rfl
theorem Rq (c:Condition):fq c=true→∀(f:List ac) (d:Int),f.length≤1048576→∃b,Kc c f d=some b∧Od c f d=some b:=by
 refine gt (P:=fun c=>fq c=true→∀(f:List ac) (d:Int),f.length≤1048576→∃b,Kc c f d=some b∧Od c f d=some b) ?_ c
 intro c ih hf f d hl
 rw[tu,Bool.and_eq_true,List.all_eq_true] at hf
 obtain⟨hf,hp⟩:=hf
 rw[acM,agI]
 unfold uS zN
 have g0:∀{p:Condition} {l:List Condition},aI (p::l) 0=some p:=rfl
 have g1:∀{p q:Condition} {l:List Condition},aI (p::q::l) 1=some q:=rfl
 rcases aa9 hf with⟨o,e⟩ | ⟨o,e⟩ | ⟨o,e⟩ | ⟨o,p,e⟩ | ⟨o,p,q,e⟩ | ⟨o,p,q,e⟩
 ·exact⟨true,by rw[o];rfl,by rw[o];rfl⟩
 ·exact⟨f.contains c.Name,by rw[o,adI f _ hl];rfl,by rw[o,OG f _ hl];rfl⟩
 ·exact⟨decide (d≥c.Day),by rw[o];rfl,by rw[o];rfl⟩
 ·rw[e] at ih hp
  obtain⟨b,h1,h2⟩:=ih p (by simp) (hp p (by simp)) f d hl
  refine⟨!b,?_,?_⟩
  ·rw[o,e]
   simp only[Int.reduceBEq,cond_false,cond_true]
   rw[g0,Option.bind_some,show aN l6 (p,f,d)=_ from h1];rfl
  ·rw[o,e]
   simp only[Int.reduceBEq,cond_false,cond_true]
   rw[g0,Option.bind_some,show aN pa (p,f,d)=_ from h2];rfl
 ·rw[e] at ih hp
  obtain⟨b,h1,h2⟩:=ih p (by simp) (hp p (by simp)) f d hl
  obtain⟨b',h3,h4⟩:=ih q (by simp) (hp q (by simp)) f d hl
  refine⟨b&&b',?_,?_⟩
  ·rw[o,e]
   simp only[Int.reduceBEq,cond_false,cond_true]
   rw[g0,g1,Option.bind_some,show aN l6 (p,f,d)=_ from h1,Option.bind_some]
   cases b with
   | false=>rfl
   | true=>rw[cond_true,Option.bind_some,show aN l6 (q,f,d)=_ from h3];rfl
  ·rw[o,e]
   simp only[Int.reduceBEq,cond_false,cond_true]
   rw[g0,g1,Option.bind_some,show aN pa (p,f,d)=_ from h2,Option.bind_some]
   cases b with
   | false=>rfl
   | true=>rw[cond_true,Option.bind_some,show aN pa (q,f,d)=_ from h4];rfl
 ·rw[e] at ih hp
  obtain⟨b,h1,h2⟩:=ih p (by simp) (hp p (by simp)) f d hl
  obtain⟨b',h3,h4⟩:=ih q (by simp) (hp q (by simp)) f d hl
  refine⟨b||b',?_,?_⟩
  ·rw[o,e]
   simp only[Int.reduceBEq,cond_false,cond_true]
   rw[g0,g1,Option.bind_some,show aN l6 (p,f,d)=_ from h1,Option.bind_some]
   cases b with
   | true=>rfl
   | false=>rw[cond_false,Option.bind_some,show aN l6 (q,f,d)=_ from h3];rfl
  ·rw[o,e]
   simp only[Int.reduceBEq,cond_false,cond_true]
   rw[g0,g1,Option.bind_some,show aN pa (p,f,d)=_ from h2,Option.bind_some]
   cases b with
   | true=>rfl
   | false=>rw[cond_false,Option.bind_some,show aN pa (q,f,d)=_ from h4];rfl
noncomputable def tv (c:Condition)(f:List ac)(d:Int):Bool:=(Od c f d).getD false
theorem Ys {c:Condition}(h:fq c=true){f:List ac}{d:Int}(hl:f.length≤1048576):Kc c f d=some (tv c f d):=by
 obtain⟨b,h1,h2⟩:=Rq c h f d hl
 unfold tv
 rw[h1,h2];rfl
theorem XT {c:Condition}(h:fq c=true){f:List ac}{d:Int}(hl:f.length≤1048576):Od c f d=some (tv c f d):=by
 obtain⟨b,h1,h2⟩:=Rq c h f d hl
 unfold tv
 rw[h2];rfl
theorem XE (a:List ac)(ha:a.length≤1048576):CZ a=some a:=by
 unfold CZ zd gP
 rw[if_pos (by simp only[List.length_nil,lN];omega)]
 cases a<;>simp[zO]
theorem SJ (a:List Duty)(ha:a.length≤1048576):CV a=some a:=by
 unfold CV zd gP
 rw[if_pos (by simp only[List.length_nil,lN];omega)]
 cases a<;>simp[zO]
theorem XD (a:List Int)(ha:a.length≤1048576):CX a=some a:=by
 unfold CX zd gP
 rw[if_pos (by simp only[List.length_nil,lN];omega)]
 cases a<;>simp[zO]
theorem Ye (s:State)(hs:jW s):B6 s=some s:=by
 unfold B6
 rw[XE _ hs.2.1.1,SJ _ hs.2.2.1.1,XD _ hs.2.2.2.1.1]
 rfl
theorem adN (c:Contract)(s:State)(hs:jW s){names:List ac}(hn:vm c=some names):B0 c s=some ⟨c,s,names,[],false⟩:=by
 unfold B0
 rw[Ye s hs,Option.bind_some,hn]
 rfl
theorem RM {c:Contract}(h:jD c=true){i:Int}{e:Clause}(he:aI c.Clauses i=some e):fq e.When=true:=by
 unfold aI at he
 split at he
 ·have h1:=yM ((yQ h).2.2.2 _ e he).2
  simp only[qr,Bool.and_eq_true] at h1
  exact h1.1
 ·cases he
noncomputable def OS (s:State)(kind party:Int)(action:ac)(x:Clause):Bool:=(x.Kind==kind)&&((x.Party==party)&&((x.Action==action)&&tv x.When s.Facts s.Day))
def ag7:Option Nat→Int
 | some i=>(i:Int)
 | none=>-1
noncomputable def Ef (c:Contract)(s:State)(kind party:Int)(action:ac):Int:=ag7 (c.Clauses.findIdx? (OS s kind party action))
theorem abQ {c:Contract}(h:jD c=true){e:Clause}(he:e∈c.Clauses):fq e.When=true:=by
 obtain⟨i,hi,rfl⟩:=List.mem_iff_getElem.1 he
 exact RM h (i:=(i:Int)) (by rw[cl,List.getElem?_eq_getElem hi])
theorem Rr {o:Option Nat}{L:Int→Option (Int⊕Unit)}(h:L 0=some (match o with | some i=>.inl (i:Int) | none=>.inr ())):(be (ρ:=Int) (L 0) fun _:Unit=>some (-1))=some (ag7 o):=by
 rw[h]
 cases o<;>rfl
theorem Tg (c:Contract)(s:State)(bad:Bool)(kind party:Int)(action:ac)(h:jD c=true)(hc:c.Clauses.length≤1048576)(hs:s.Facts.length≤1048576):tM ⟨c,s,bad⟩ kind party action=some (Ef c s kind party action):=by
 unfold tM Ef
 refine Rr (L:=vi ⟨c,s,bad⟩ kind party action) (js (a:=c.Clauses) (p:=fun x=>some (OS s kind party action x)) (fun _ _=>rfl) (fun x=>?_) (by omega))
 rw[Sl,oG]
 cases he:aI c.Clauses x with
 | none=>rfl
 | some e=>
  simp only[Option.bind_some]
  have hh:DX ⟨c,s,bad⟩ x=some (tv e.When s.Facts s.Day):=by
   unfold DX
   simp only[he,Option.bind_some]
   rw[Ys (RM h he) hs]
   rfl
  rw[hh]
  unfold OS
  cases e.Kind==kind<;>cases e.Party==party<;>cases e.Action==action<;>cases tv e.When s.Facts s.Day<;>rfl
theorem SZ (c:Contract)(s:State)(names:List ac)(t:List Entry)(bad:Bool)(kind party:Int)(action:ac)(h:jD c=true)(hc:c.Clauses.length≤1048576)(hs:s.Facts.length≤1048576):tL ⟨c,s,names,t,bad⟩ kind party action=some (Ef c s kind party action):=by
 unfold tL J1 Ef
 rw[Rr (js (L:=uD c.Clauses (kind,party,action,⟨c,s,names,t,bad⟩)) (a:=c.Clauses) (p:=fun x=>B2 x kind party action ⟨c,s,names,t,bad⟩) (q:=OS s kind party action) (fun x hx=>?_) (fun x=>by rw[R8,oc]) (by omega))]
 ·rfl
 ·unfold B2 JO
  rw[XT (abQ h hx) hs]
  unfold OS
  cases x.Kind==kind<;>cases x.Party==party<;>cases x.Action==action<;>cases tv x.When s.Facts s.Day<;>rfl
def jK (p:Nat→Bool):Nat→List Int
 | 0=>[]
 | n+1=>jK p n++(bif p n then [(n:Int)] else [])
theorem zl (p:Nat→Bool):∀n,(jK p n).length≤n
 | 0=>Nat.le_refl _
 | n+1=>by
  have:=zl p n
  rw[jK,List.length_append]
  cases p n<;>simp<;>omega
theorem abu {ρ:Type}{L:Nat→List Int→Option (ρ⊕List Int)}(n:Nat)(hn:n≤1048576)(p:Nat→Bool)(hS:∀i out,i<n→out.length≤i→L i out=bif p i then ((gP 8 out [(i:Int)]).bind fun a=>L (i+1) a) else L (i+1) out)(hE:∀out,L n out=some (.inr out)):L 0 []=some (.inr (jK p n)):=by
 obtain⟨y,h1,h2⟩:=jf (L:=L) n (fun i s=>s=jK p i) (fun y=>y=.inr (jK p n)) (s:=[])
  (by
   rintro i s hi rfl
   have hl:=zl p i
   refine .inl ⟨jK p (i+1),rfl,?_⟩
   rw[hS i _ hi hl,jK]
   cases p i with
   | true=>rw[cond_true,wr (by omega) (by omega)];rfl
   | false=>rw[cond_false,cond_false,List.append_nil])
  (by rintro s rfl;exact⟨_,rfl,hE _⟩) rfl
 rw[h2,h1]
namespace Sy
def mk (n:Nat)(A:Nat→Int):List Int:=(List.range n).map A
theorem dP {n:Nat}{A:Nat→Int}:(mk n A).length=n:=by simp[mk]
theorem vC {n k:Nat}{A:Nat→Int}(h:k<n):(mk n A)[k]?=some (A k):=by simp[mk,h]
theorem iL {n k:Nat}{A:Nat→Int}(h:k<n):aI (mk n A) (k:Int)=some (A k):=by rw[cl,vC h]
theorem jS {n:Nat}{A B:Nat→Int}(h:∀k,k<n→A k=B k):mk n A=mk n B:=by
 unfold mk
 exact List.map_congr_left fun k hk=>h k (List.mem_range.1 hk)
theorem Ae {n i:Nat}{A:Nat→Int}{v:Int}:dM (mk n A) (i:Int) v=mk n (fun k=>if k=i then v else A k):=by
 rw[Ew]
 apply List.ext_getElem?
 intro k
 rw[List.getElem?_set]
 by_cases hk:k<n
 ·rw[dP,vC hk,vC hk]
  by_cases h:i=k
  ·subst h;simp[hk]
  ·simp[h,Ne.symm h]
 ·rw[List.getElem?_eq_none (by rw[dP];omega),List.getElem?_eq_none (by rw[dP];omega)]
  split
  ·split
   ·rename_i h1 h2;rw[dP] at h2;omega
   ·rfl
  ·rfl
theorem X6 {n:Nat}{A:Nat→Int}{x:Int}:x∈mk n A↔∃k,k<n∧A k=x:=by simp[mk]
def zu (A:Nat→Int)(a b l:Nat)(k:Nat):Int:=if a≤k∧k<a+l then A (k - a+b) else if b≤k∧k<b+l then A (k - b+a) else A k
def vI (A:Nat→Int)(a m b:Nat)(k:Nat):Int:=if a≤k∧k<a+(b - m) then A (k - a+m) else if a+(b - m)≤k∧k<b then A (k - (a+(b - m))+a) else A k
theorem qi {x y:Nat}(h:x+y≤1000000000):aj ((x:Int)+(y:Int))=((x+y:Nat):Int):=by rw[iI (by omega) (by omega)];omega
theorem fh {x y:Nat}(h:y≤x)(h2:x≤1000000000):aj ((x:Int) - (y:Int))=((x - y:Nat):Int):=by rw[iI (by omega) (by omega)];omega
theorem nP {x:Nat}(h:x≤1000000000):aj ((x:Int)+1)=((x+1:Nat):Int):=by rw[iI (by omega) (by omega)];omega
theorem qj {x:Nat}(h0:1≤x)(h:x≤1000000000):aj ((x:Int) - 1)=((x - 1:Nat):Int):=by rw[iI (by omega) (by omega)];omega
theorem yW {x y:Nat}(h:x+y≤1000000000):IntKind.i64.wrap (ep .u64 (IntKind.u64.wrap (aj ((x:Int)+(y:Int)))) 1)=(((x+y) / 2:Nat):Int):=by
 rw[qi h]
 have e1:IntKind.u64.wrap ((x+y:Nat):Int)=((x+y:Nat):Int):=by
  show ((x+y:Nat):Int) % 18446744073709551616=_
  omega
 rw[e1]
 have e2:ep .u64 ((x+y:Nat):Int) 1=(((x+y) / 2:Nat):Int):=by
  show Int.fdiv ((x+y:Nat):Int) (2 ^ 1)=_
  rw[Int.fdiv_eq_ediv_of_nonneg _ (by decide)]
  omega
 rw[e2]
 exact iI (by omega) (by omega)
theorem EA (A:Nat→Int)(s:State)(n a b l:Nat)(hn:n≤1000000)(h1:a+l≤b)(h2:b+l≤n):v7 (mk n A) (a:Int) (b:Int) (l:Int) s=some (mk n (zu A a b l)):=by
 unfold v7
 obtain⟨y,rfl,h⟩:=jf (L:=fun i (D:List Int)=>mA (mk n A) (a:Int) (b:Int) (l:Int) s ((i:Int),D)) l (fun i D=>D=mk n (zu A a b i)) (fun y=>y=.inr (mk n (zu A a b l))) (s:=mk n A)
  (by
   rintro i D hi rfl
   refine .inl ⟨_,rfl,?_⟩
   show mA (mk n A) (a:Int) (b:Int) (l:Int) s ((i:Int),_)=mA (mk n A) (a:Int) (b:Int) (l:Int) s (((i+1:Nat):Int),_)
   rw[GQ,lW]
   have g1:decide ((i:Int)<(l:Int))=true:=decide_eq_true (by omega)
   simp only[g1,cond_true,qi (show b+i≤1000000000 by omega),qi (show a+i≤1000000000 by omega),nP (show i≤1000000000 by omega),iL (show b+i<n by omega),iL (show a+i<n by omega),Option.bind_some,Ae,eQ]
   congr 2
   apply jS
   intro k hk
   unfold zu
   repeat' split
   all_goals first | omega | exact congrArg A (by omega) | (congr 1;omega) | rfl)
  (by
   rintro D rfl
   refine⟨_,rfl,?_⟩
   show mA (mk n A) (a:Int) (b:Int) (l:Int) s ((l:Int),_)=_
   rw[GQ,lW]
   simp only[decide_eq_false (Int.lt_irrefl _),cond_false])
  (jS fun k _=>by
   unfold zu
   repeat' split
   all_goals first | omega | rfl)
 rw[show mA (mk n A) (a:Int) (b:Int) (l:Int) s (0,mk n A)=_ from h,cn,dP,dP,Nat.beq_refl]
 rfl
theorem Eq (A0:List Int)(s:State)(n a0 m b0:Nat)(hn:n≤1000000):∀(N i j:Nat) (A:Nat→Int),i+j≤N→1≤i→1≤j→i≤m→m+j≤n→∃(h:Nat) (A':Nat→Int),uI A0 (a0:Int) (m:Int) (b0:Int) s ((i:Int),(j:Int),mk n A)=some (.inr ((m:Int),(h:Int),mk n A'))∧h≤m∧m+h≤n∧∀k,zu A' (m - h) m h k=vI A (m - i) m (m+j) k
 | 0,i,j,A,h0,hi,hj,_,_=>by omega
 | N+1,i,j,A,h0,hi,hj,him,hjn=>by
  rw[Sd,om]
  rcases Nat.lt_trichotomy i j with hlt | heq | hgt
  ·have g1:((i:Int) != (j:Int))=true:=by rw[bne,beq_eq_false_iff_ne.2 (by omega)];rfl
   have g2:decide ((i:Int)>(j:Int))=false:=decide_eq_false (by omega)
   simp only[g1,g2,cond_true,cond_false,fh him (show m≤1000000000 by omega),qi (show m+j≤1000000000 by omega),fh (show i≤m+j by omega) (show m+j≤1000000000 by omega),fh (show i≤j by omega) (show j≤1000000000 by omega),EA A s n (m - i) (m+j - i) i hn (by omega) (by omega),Option.bind_some,dP,Nat.beq_refl,eP]
   obtain⟨h,A',e,p1,p2,p3⟩:=Eq A0 s n a0 m b0 hn N i (j - i) (zu A (m - i) (m+j - i) i) (by omega) hi (by omega) him (by omega)
   refine⟨h,A',e,p1,p2,fun k=>?_⟩
   rw[p3]
   unfold vI zu
   repeat' split
   all_goals first | omega | exact congrArg A (by omega) | (congr 1;omega) | rfl
  ·subst heq
   refine⟨i,A,?_,him,hjn,fun k=>?_⟩
   ·simp only[bne_self_eq_false,cond_false]
   ·unfold vI zu
    repeat' split
    all_goals first | omega | exact congrArg A (by omega) | (congr 1;omega) | rfl
  ·have g1:((i:Int) != (j:Int))=true:=by rw[bne,beq_eq_false_iff_ne.2 (by omega)];rfl
   have g2:decide ((i:Int)>(j:Int))=true:=decide_eq_true (by omega)
   simp only[g1,g2,cond_true,fh him (show m≤1000000000 by omega),fh (show j≤i by omega) (show i≤1000000000 by omega),EA A s n (m - i) m j hn (by omega) (by omega),Option.bind_some,dP,Nat.beq_refl,eP]
   obtain⟨h,A',e,p1,p2,p3⟩:=Eq A0 s n a0 m b0 hn N (i - j) j (zu A (m - i) m j) (by omega) (by omega) hj (by omega) hjn
   refine⟨h,A',e,p1,p2,fun k=>?_⟩
   rw[p3]
   unfold vI zu
   repeat' split
   all_goals first | omega | exact congrArg A (by omega) | (congr 1;omega) | rfl
theorem adZ (A:Nat→Int)(s:State)(n a m b:Nat)(hn:n≤1000000)(h1:a<m)(h2:m<b)(h3:b≤n):xP (mk n A) (a:Int) (m:Int) (b:Int) s=some (mk n (vI A a m b)):=by
 unfold xP
 rw[fh (show a≤m by omega) (by omega),fh (show m≤b by omega) (by omega)]
 obtain⟨h,A',e,p1,p2,p3⟩:=Eq (mk n A) s n a m b hn ((m - a)+(b - m)) (m - a) (b - m) A (Nat.le_refl _) (by omega) (by omega) (by omega) (by omega)
 rw[e,cn]
 simp only[fh p1 (show m≤1000000000 by omega),EA A' s n (m - h) m h hn (by omega) p2,Option.bind_some,dP,Nat.beq_refl,cond_true]
 congr 1
 apply jS
 intro k _
 rw[p3,show m - (m - a)=a by omega,show m+(b - m)=b by omega]
theorem aaZ (x y:Int):M5 x y=some (if x<y then -1 else if y<x then 1 else 0):=by
 simp only[M5,M6,Option.bind_some,bne_self_eq_false,cond_false]
 by_cases h:x<y
 ·simp[h]
 ·by_cases h':y<x<;>simp[h,h']
def eL (s:State)(x:Int):Int:=match aI s.Duties x with
 | some d=>d.Due
 | none=>0
def oP (s:State)(x:Int):Prop:=(aI s.Duties x).isSome=true
theorem zQ {s:State}{x y:Int}(hx:oP s x)(hy:oP s y):∃r:Int,Bq x y s=some r∧decide (r<0)=decide (eL s x<eL s y):=by
 unfold Bq eL
 unfold oP at hx hy
 cases h1:aI s.Duties x with
 | none=>rw[h1] at hx;cases hx
 | some d=>
  cases h2:aI s.Duties y with
  | none=>rw[h2] at hy;cases hy
  | some e=>
   simp only[Option.bind_some,aaZ]
   refine⟨_,rfl,?_⟩
   by_cases h:d.Due<e.Due
   ·simp[h]
   ·by_cases h':e.Due<d.Due<;>simp[h,h']
def T (s:State)(x y:Int):Prop:=eL s x<eL s y∨(eL s x=eL s y∧x<y)
theorem T.le {s:State}{x y:Int}(h:T s x y):eL s x≤eL s y:=by rcases h with h | h<;>omega
theorem T.trans {s:State}{x y z:Int}(h:T s x y)(h2:T s y z):T s x z:=by
 rcases h with h | h<;>rcases h2 with h2 | h2
 ·exact .inl (by omega)
 ·exact .inl (by omega)
 ·exact .inl (by omega)
 ·exact .inr (by omega)
theorem T.irrefl {s:State}{x:Int}(h:T s x x):False:=by rcases h with h | h<;>omega
def tk (s:State)(A:Nat→Int)(a b:Nat):Prop:=∀i j,a≤i→i<j→j<b→T s (A i) (A j)
def Crs (s:State)(A:Nat→Int)(a m b:Nat):Prop:=∀i j,a≤i→i<m→m≤j→j<b→eL s (A i)=eL s (A j)→A i<A j
def lK (A' A:Nat→Int)(a b:Nat):Prop:=∀k,(k<a∨b≤k)→A' k=A k
def ig (A' A:Nat→Int)(a b:Nat):Prop:=(∀k,a≤k→k<b→∃k',a≤k'∧k'<b∧A' k=A k')∧(∀k,a≤k→k<b→∃k',a≤k'∧k'<b∧A k=A' k')
theorem ig.refl {A:Nat→Int}{a b:Nat}:ig A A a b:=⟨fun k h1 h2=>⟨k,h1,h2,rfl⟩,fun k h1 h2=>⟨k,h1,h2,rfl⟩⟩
theorem ig.trans {A B C:Nat→Int}{a b:Nat}(h:ig A B a b)(h2:ig B C a b):ig A C a b:=
 ⟨fun k q1 q2=>by
  obtain⟨k',p1,p2,p3⟩:=h.1 k q1 q2
  obtain⟨k2,r1,r2,r3⟩:=h2.1 k' p1 p2
  exact⟨k2,r1,r2,p3.trans r3⟩,fun k q1 q2=>by
  obtain⟨k',p1,p2,p3⟩:=h2.2 k q1 q2
  obtain⟨k2,r1,r2,r3⟩:=h.2 k' p1 p2
  exact⟨k2,r1,r2,p3.trans r3⟩⟩
theorem ig.widen {A B:Nat→Int}{a b c d:Nat}(h:ig A B c d)(ho:lK A B c d)(h1:a≤c)(h2:d≤b):ig A B a b:=by
 refine⟨fun k q1 q2=>?_,fun k q1 q2=>?_⟩
 ·by_cases hk:c≤k∧k<d
  ·obtain⟨k',p1,p2,p3⟩:=h.1 k hk.1 hk.2
   exact⟨k',by omega,by omega,p3⟩
  ·exact⟨k,q1,q2,ho k (by omega)⟩
 ·by_cases hk:c≤k∧k<d
  ·obtain⟨k',p1,p2,p3⟩:=h.2 k hk.1 hk.2
   exact⟨k',by omega,by omega,p3⟩
  ·exact⟨k,q1,q2,(ho k (by omega)).symm⟩
theorem KC {β:Type}{L:Int×Int→Option β}{R:Nat→β}{q:Nat→Bool}{lo hi:Nat}(hlh:lo≤hi)(hm:∀x y,lo≤x→x<y→y<hi→q y=true→q x=true)(hS:∀i j:Nat,lo≤i→i<j→j≤hi→L ((i:Int),(j:Int))=bif q ((i+j) / 2) then L ((((i+j) / 2+1:Nat):Int),(j:Int)) else L ((i:Int),(((i+j) / 2:Nat):Int)))(hE:∀i:Nat,lo≤i→i≤hi→L ((i:Int),(i:Int))=some (R i)):∃i,lo≤i∧i≤hi∧L ((lo:Int),(hi:Int))=some (R i)∧(∀x,lo≤x→x<i→q x=true)∧(∀x,i≤x→x<hi→q x=false):=by
 have key:∀N (i j:Nat),j - i≤N→lo≤i→i≤j→j≤hi→(∀x,lo≤x→x<i→q x=true)→(∀x,j≤x→x<hi→q x=false)→∃k,lo≤k∧k≤hi∧L ((i:Int),(j:Int))=some (R k)∧(∀x,lo≤x→x<k→q x=true)∧(∀x,k≤x→x<hi→q x=false):=by
  intro N
  induction N with
  | zero=>
   intro i j h0 h1 h2 h3 h4 h5
   obtain rfl:i=j:=by omega
   exact⟨i,h1,h3,hE i h1 h3,h4,h5⟩
  | succ N ih=>
   intro i j h0 h1 h2 h3 h4 h5
   rcases Nat.lt_or_eq_of_le h2 with h6 | rfl
   ·rw[hS i j h1 h6 h3]
    cases hq:q ((i+j) / 2) with
    | true=>
     refine ih ((i+j) / 2+1) j (by omega) (by omega) (by omega) h3 (fun x hx1 hx2=>?_) h5
     rcases Nat.lt_or_eq_of_le (Nat.le_of_lt_succ hx2) with h7 | rfl
     ·exact hm x _ hx1 h7 (by omega) hq
     ·exact hq
    | false=>
     refine ih i ((i+j) / 2) (by omega) h1 (by omega) (by omega) h4 (fun x hx1 hx2=>?_)
     rcases Nat.lt_or_eq_of_le hx1 with h7 | rfl
     ·cases hqx:q x with
      | false=>rfl
      | true=>rw[hm _ x (by omega) h7 hx2 hqx] at hq;cases hq
     ·exact hq
   ·exact⟨i,h1,h3,hE i h1 h3,h4,h5⟩
 exact key (hi - lo) lo hi (Nat.le_refl _) (Nat.le_refl _) hlh (Nat.le_refl _) (fun x h1 h2=>by omega) (fun x h1 h2=>by omega)
def LD (A:Nat→Int)(a k x:Nat):Int:=if a≤x∧x<k then A (x+1) else if x=k then A a else A x
def jI (A:Nat→Int)(m k x:Nat):Int:=if k<x∧x≤m then A (x - 1) else if x=k then A m else A x
theorem ad2 (s:State)(n:Nat)(hn:n≤1000000):∀(N a m b:Nat) (A:Nat→Int),b - a≤N→a<m→m<b→b≤n→(∀k,k<n→oP s (A k))→tk s A a m→tk s A m b→Crs s A a m b→
  ∃A',J7 (mk n A) (a:Int) (m:Int) (b:Int) s=some (mk n A')∧lK A' A a b∧ig A' A a b∧tk s A' a b:=by
 intro N
 induction N with
 | zero=>intro a m b A h0 h1 h2;omega
 | succ N ih=>
  intro a m b A h0 h1 h2 h3 hok hA hB hC
  rw[acH]
  unfold uN
  rw[fh (show a≤m by omega) (by omega),fh (show m≤b by omega) (by omega)]
  by_cases c1:m - a=1
  ·-- one element at the left
   have hma:m=a+1:=by omega
   rw[show ((((m - a:Nat):Int))==1)=true by rw[c1];rfl,cond_true]
   obtain⟨i,i1,i2,i3,i4,i5⟩:=KC (L:=pP (aN fX) (mk n A) (a:Int) (m:Int) (b:Int) s) (R:=fun i=>.inr ((a:Int),(i:Int),mk n A)) (q:=fun h=>decide (eL s (A h)<eL s (A a))) (lo:=m) (hi:=b) (by omega)
    (fun x y hx hxy hy hq=>by
     rw[decide_eq_true_eq] at hq ⊢
     have:=(hB x y hx hxy hy).le
     omega)
    (fun i j hi hij hj=>by
     rw[GR,jx]
     obtain⟨r,r1,r2⟩:=zQ (hok ((i+j) / 2) (by omega)) (hok a (by omega))
     simp only[show decide ((i:Int)<(j:Int))=true from decide_eq_true (by omega),cond_true,yW (show i+j≤1000000000 by omega),iL (show (i+j) / 2<n by omega),iL (show a<n by omega),Option.bind_some,r1,r2,eQ,nP (show (i+j) / 2≤1000000000 by omega)]
     cases decide (eL s (A ((i+j) / 2))<eL s (A a))<;>rfl)
    (fun i hi hi2=>by
     rw[GR,jx]
     simp only[decide_eq_false (Int.lt_irrefl _),cond_false])
   rw[i3,cn]
   obtain⟨y,rfl,h⟩:=jf (L:=fun t (D:List Int)=>ke (aN fX) (mk n A) (a:Int) (m:Int) (b:Int) s ((a:Int),(i:Int),mk n A) (((a+t:Nat):Int),D)) (i - 1 - a) (fun t D=>D=mk n (LD A a (a+t))) (fun y=>y=.inr (mk n (LD A a (i - 1)))) (s:=mk n A)
    (by
     rintro t D ht rfl
     refine .inl ⟨_,rfl,?_⟩
     show ke (aN fX) (mk n A) (a:Int) (m:Int) (b:Int) s ((a:Int),(i:Int),mk n A) (((a+t:Nat):Int),_)=ke (aN fX) (mk n A) (a:Int) (m:Int) (b:Int) s ((a:Int),(i:Int),mk n A) (((a+(t+1):Nat):Int),_)
     rw[GS,jy]
     simp only[qj (show 1≤i by omega) (show i≤1000000000 by omega),show decide (((a+t:Nat):Int)<((i - 1:Nat):Int))=true from decide_eq_true (by omega),cond_true,nP (show a+t≤1000000000 by omega),iL (show a+t+1<n by omega),iL (show a+t<n by omega),Option.bind_some,Ae,eQ]
     rw[show a+(t+1)=a+t+1 by omega]
     congr 2
     apply jS
     intro k hk
     unfold LD
     repeat' split
     all_goals first | omega | exact congrArg A (by omega) | (congr 1;omega) | rfl)
    (by
     rintro D rfl
     refine⟨_,rfl,?_⟩
     show ke (aN fX) (mk n A) (a:Int) (m:Int) (b:Int) s ((a:Int),(i:Int),mk n A) (((a+(i - 1 - a):Nat):Int),_)=_
     rw[GS,jy,show a+(i - 1 - a)=i - 1 by omega]
     simp only[qj (show 1≤i by omega) (show i≤1000000000 by omega),decide_eq_false (Int.lt_irrefl _),cond_false])
    (jS fun k _=>by
     unfold LD
     repeat' split
     all_goals first | omega | exact congrArg A (by omega) | (congr 1;omega) | rfl)
   rw[show ke (aN fX) (mk n A) (a:Int) (m:Int) (b:Int) s ((a:Int),(i:Int),mk n A) ((a:Int),mk n A)=_ from h,cn,dP,dP,Nat.beq_refl,cond_true]
   refine⟨_,rfl,fun k hk=>?_,⟨fun k k1 k2=>?_,fun k k1 k2=>?_⟩,fun x y hx hxy hy=>?_⟩
   ·unfold LD
    repeat' split
    all_goals first | omega | exact congrArg A (by omega) | (congr 1;omega) | rfl
   ·unfold LD
    by_cases q1:k<i - 1
    ·exact⟨k+1,by omega,by omega,by rw[if_pos (by omega)]⟩
    ·by_cases q2:k=i - 1
     ·exact⟨a,by omega,by omega,by rw[if_neg (by omega),if_pos q2]⟩
     ·exact⟨k,by omega,by omega,by rw[if_neg (by omega),if_neg q2]⟩
   ·unfold LD
    by_cases q1:k=a
    ·exact⟨i - 1,by omega,by omega,by rw[if_neg (by omega),if_pos rfl,q1]⟩
    ·by_cases q2:k<i
     ·exact⟨k - 1,by omega,by omega,by rw[if_pos (by omega)];congr 1;omega⟩
     ·exact⟨k,by omega,by omega,by rw[if_neg (by omega),if_neg (by omega)]⟩
   ·have hlow:∀z,m≤z→z<i→T s (A z) (A a):=fun z z1 z2=>by
     have:=i4 z z1 z2
     rw[decide_eq_true_eq] at this
     exact .inl this
    have hhigh:∀z,i≤z→z<b→T s (A a) (A z):=fun z z1 z2=>by
     have h7:=i5 z z1 z2
     rw[decide_eq_false_iff_not] at h7
     by_cases h8:eL s (A a)=eL s (A z)
     ·exact .inr ⟨h8,hC a z (Nat.le_refl _) (by omega) (by omega) z2 h8⟩
     ·exact .inl (by omega)
    unfold LD
    by_cases x1:x<i - 1
    ·rw[if_pos (show a≤x∧x<i - 1 from⟨hx,x1⟩)]
     by_cases y1:y<i - 1
     ·rw[if_pos (by omega)];exact hB (x+1) (y+1) (by omega) (by omega) (by omega)
     ·by_cases y2:y=i - 1
      ·rw[if_neg (by omega),if_pos y2];exact hlow (x+1) (by omega) (by omega)
      ·rw[if_neg (by omega),if_neg y2];exact hB (x+1) y (by omega) (by omega) hy
    ·by_cases x2:x=i - 1
     ·rw[if_neg (show ¬(a≤x∧x<i - 1) by omega),if_pos x2,if_neg (by omega),if_neg (by omega)]
      exact hhigh y (by omega) hy
     ·rw[if_neg (show ¬(a≤x∧x<i - 1) by omega),if_neg x2,if_neg (by omega),if_neg (by omega)]
      exact hB x y (by omega) hxy hy
  rw[show ((((m - a:Nat):Int))==1)=false from beq_eq_false_iff_ne.2 (by omega),cond_false]
  by_cases c2:b - m=1
  ·-- one element at the right
   rw[show ((((b - m:Nat):Int))==1)=true by rw[c2];rfl,cond_true]
   obtain⟨i,i1,i2,i3,i4,i5⟩:=KC (L:=pQ (aN fX) (mk n A) (a:Int) (m:Int) (b:Int) s) (R:=fun i=>.inr ((m:Int),(i:Int),mk n A)) (q:=fun h=>!decide (eL s (A m)<eL s (A h))) (lo:=a) (hi:=m) (by omega)
    (fun x y hx hxy hy hq=>by
     rw[Bool.not_eq_true',decide_eq_false_iff_not] at hq ⊢
     have:=(hA x y hx hxy hy).le
     omega)
    (fun i j hi hij hj=>by
     rw[GT,jz]
     obtain⟨r,r1,r2⟩:=zQ (hok m (by omega)) (hok ((i+j) / 2) (by omega))
     simp only[show decide ((i:Int)<(j:Int))=true from decide_eq_true (by omega),cond_true,yW (show i+j≤1000000000 by omega),iL (show (i+j) / 2<n by omega),iL (show m<n by omega),Option.bind_some,r1,r2,eQ,nP (show (i+j) / 2≤1000000000 by omega)]
     cases decide (eL s (A m)<eL s (A ((i+j) / 2)))<;>rfl)
    (fun i hi hi2=>by
     rw[GT,jz]
     simp only[decide_eq_false (Int.lt_irrefl _),cond_false])
   rw[i3,cn]
   obtain⟨y,rfl,h⟩:=jf (L:=fun t (D:List Int)=>kf (aN fX) (mk n A) (a:Int) (m:Int) (b:Int) s ((m:Int),(i:Int),mk n A) (((m - t:Nat):Int),D)) (m - i) (fun t D=>D=mk n (jI A m (m - t))) (fun y=>y=.inr (mk n (jI A m i))) (s:=mk n A)
    (by
     rintro t D ht rfl
     refine .inl ⟨_,rfl,?_⟩
     show kf (aN fX) (mk n A) (a:Int) (m:Int) (b:Int) s ((m:Int),(i:Int),mk n A) (((m - t:Nat):Int),_)=kf (aN fX) (mk n A) (a:Int) (m:Int) (b:Int) s ((m:Int),(i:Int),mk n A) (((m - (t+1):Nat):Int),_)
     rw[GU,jA]
     simp only[show decide (((m - t:Nat):Int)>(i:Int))=true from decide_eq_true (by omega),cond_true,qj (show 1≤m - t by omega) (show m - t≤1000000000 by omega),iL (show m - t - 1<n by omega),iL (show m - t<n by omega),Option.bind_some,Ae,eQ]
     rw[show m - (t+1)=m - t - 1 by omega]
     congr 2
     apply jS
     intro k hk
     unfold jI
     repeat' split
     all_goals first | omega | exact congrArg A (by omega) | (congr 1;omega) | rfl)
    (by
     rintro D rfl
     refine⟨_,rfl,?_⟩
     show kf (aN fX) (mk n A) (a:Int) (m:Int) (b:Int) s ((m:Int),(i:Int),mk n A) (((m - (m - i):Nat):Int),_)=_
     rw[GU,jA,show m - (m - i)=i by omega]
     simp only[show decide ((i:Int)>(i:Int))=false from decide_eq_false (Int.lt_irrefl _),cond_false])
    (jS fun k _=>by
     unfold jI
     repeat' split
     all_goals first | omega | exact congrArg A (by omega) | (congr 1;omega) | rfl)
   rw[show kf (aN fX) (mk n A) (a:Int) (m:Int) (b:Int) s ((m:Int),(i:Int),mk n A) ((m:Int),mk n A)=_ from h,cn,dP,dP,Nat.beq_refl,cond_true]
   refine⟨_,rfl,fun k hk=>?_,⟨fun k k1 k2=>?_,fun k k1 k2=>?_⟩,fun x y hx hxy hy=>?_⟩
   ·unfold jI
    repeat' split
    all_goals first | omega | exact congrArg A (by omega) | (congr 1;omega) | rfl
   ·unfold jI
    by_cases q1:i<k∧k≤m
    ·exact⟨k - 1,by omega,by omega,by rw[if_pos q1]⟩
    ·by_cases q2:k=i
     ·exact⟨m,by omega,by omega,by rw[if_neg q1,if_pos q2]⟩
     ·exact⟨k,by omega,by omega,by rw[if_neg q1,if_neg q2]⟩
   ·unfold jI
    by_cases q1:k=m
    ·exact⟨i,by omega,by omega,by rw[if_neg (by omega),if_pos rfl,q1]⟩
    ·by_cases q2:i≤k
     ·exact⟨k+1,by omega,by omega,by rw[if_pos (by omega)];congr 1⟩
     ·exact⟨k,by omega,by omega,by rw[if_neg (by omega),if_neg (by omega)]⟩
   ·have hlow:∀z,a≤z→z<i→T s (A z) (A m):=fun z z1 z2=>by
     have h7:=i4 z z1 z2
     rw[Bool.not_eq_true',decide_eq_false_iff_not] at h7
     by_cases h8:eL s (A z)=eL s (A m)
     ·exact .inr ⟨h8,hC z m z1 (by omega) (Nat.le_refl _) (by omega) h8⟩
     ·exact .inl (by omega)
    have hhigh:∀z,i≤z→z<m→T s (A m) (A z):=fun z z1 z2=>by
     have h7:=i5 z z1 z2
     rw[Bool.not_eq_false',decide_eq_true_eq] at h7
     exact .inl h7
    unfold jI
    by_cases x1:i<x
    ·rw[if_pos (show i<x∧x≤m by omega),if_pos (show i<y∧y≤m by omega)]
     exact hA (x - 1) (y - 1) (by omega) (by omega) (by omega)
    ·by_cases x2:x=i
     ·rw[if_neg (show ¬(i<x∧x≤m) by omega),if_pos x2,if_pos (show i<y∧y≤m by omega)]
      exact hhigh (y - 1) (by omega) (by omega)
     ·rw[if_neg (show ¬(i<x∧x≤m) by omega),if_neg x2]
      by_cases y1:i<y
      ·rw[if_pos (show i<y∧y≤m by omega)];exact hA x (y - 1) hx (by omega) (by omega)
      ·by_cases y2:y=i
       ·rw[if_neg (show ¬(i<y∧y≤m) by omega),if_pos y2];exact hlow x hx (by omega)
       ·rw[if_neg (show ¬(i<y∧y≤m) by omega),if_neg y2];exact hA x y hx hxy (by omega)
  rw[show ((((b - m:Nat):Int))==1)=false from beq_eq_false_iff_ne.2 (by omega),cond_false]
  -- both sides are longer
  rw[yW (show a+b≤1000000000 by omega)]
  obtain⟨mid,hmid⟩:∃mid,mid=(a+b) / 2:=⟨_,rfl⟩
  rw[←hmid]
  simp only[qi (show mid+m≤1000000000 by omega)]
  obtain⟨lo,r,hlr,hlo,hpair⟩:∃lo r:Nat,lo≤r∧((mid<m∧lo=mid+m - b∧r=mid)∨(m≤mid∧lo=a∧r=m))∧(bif decide ((m:Int)>(mid:Int)) then ((aj (((mid+m:Nat):Int) - (b:Int))),(mid:Int)) else ((a:Int),(m:Int)))=((lo:Int),(r:Int)):=by
   by_cases hm:mid<m
   ·refine⟨mid+m - b,mid,by omega,.inl ⟨hm,rfl,rfl⟩,?_⟩
    rw[decide_eq_true (by omega),cond_true,fh (show b≤mid+m by omega) (by omega)]
   ·refine⟨a,m,by omega,.inr ⟨by omega,rfl,rfl⟩,?_⟩
    rw[decide_eq_false (by omega),cond_false]
  rw[hpair,eQ]
  obtain⟨st,i1,i2,i3,i4,i5⟩:=KC (L:=rV (aN fX) (mk n A) (a:Int) (m:Int) (b:Int) s) (R:=fun i=>.inr ((b:Int),(mid:Int),((mid+m:Nat):Int),(i:Int))) (q:=fun c=>!decide (eL s (A (mid+m - 1 - c))<eL s (A c))) (lo:=lo) (hi:=r) hlr
   (fun x y hx hxy hy hq=>by
    rw[Bool.not_eq_true',decide_eq_false_iff_not] at hq ⊢
    have q1:=(hA x y (by omega) hxy (by omega)).le
    have q2:=(hB (mid+m - 1 - y) (mid+m - 1 - x) (by omega) (by omega) (by omega)).le
    omega)
   (fun i j hi hij hj=>by
    rw[GV,kD]
    obtain⟨r',r1,r2⟩:=zQ (hok (mid+m - 1 - (i+j) / 2) (by omega)) (hok ((i+j) / 2) (by omega))
    simp only[yW (show a+b≤1000000000 by omega)]
    rw[←hmid]
    simp only[show decide ((i:Int)<(j:Int))=true from decide_eq_true (by omega),cond_true,yW (show i+j≤1000000000 by omega),qi (show mid+m≤1000000000 by omega),qj (show 1≤mid+m by omega) (show mid+m≤1000000000 by omega),fh (show (i+j) / 2≤mid+m - 1 by omega) (show mid+m - 1≤1000000000 by omega),iL (show mid+m - 1 - (i+j) / 2<n by omega),iL (show (i+j) / 2<n by omega),Option.bind_some,r1,r2,eQ,nP (show (i+j) / 2≤1000000000 by omega)]
    cases decide (eL s (A (mid+m - 1 - (i+j) / 2))<eL s (A ((i+j) / 2)))<;>rfl)
   (fun i hi hi2=>by
    rw[GV,kD]
    simp only[yW (show a+b≤1000000000 by omega)]
    rw[←hmid]
    simp only[decide_eq_false (Int.lt_irrefl _),cond_false,qi (show mid+m≤1000000000 by omega)])
  rw[i3,cn]
  obtain⟨en,hen⟩:∃en,en=mid+m - st:=⟨_,rfl⟩
  have hend:aj (((mid+m:Nat):Int) - (st:Int))=(en:Int):=by rw[fh (by omega) (by omega),hen]
  simp only[hend,eQ]
  have b1:a≤st:=by omega
  have b2:st≤mid:=by omega
  have b3:st≤m:=by omega
  have b4:m≤en:=by omega
  have b5:mid≤en:=by omega
  have b6:en≤b:=by omega
  -- what the search has found
  have f1:∀x y,a≤x→x<st→en≤y→y<b→T s (A x) (A y):=fun x y x1 x2 y1 y2=>by
   by_cases hs:lo<st
   ·have h7:=i4 (st - 1) (by omega) (by omega)
    rw[Bool.not_eq_true',decide_eq_false_iff_not,show mid+m - 1 - (st - 1)=en by omega] at h7
    have h9:T s (A (st - 1)) (A en):=by
     by_cases h8:eL s (A (st - 1))=eL s (A en)
     ·exact .inr ⟨h8,hC (st - 1) en (by omega) (by omega) (by omega) (by omega) h8⟩
     ·exact .inl (by omega)
    have h10:T s (A x) (A en):=by
     rcases Nat.lt_or_eq_of_le (show x≤st - 1 by omega) with h | rfl
     ·exact (hA x (st - 1) x1 h (by omega)).trans h9
     ·exact h9
    rcases Nat.lt_or_eq_of_le y1 with h | rfl
    ·exact h10.trans (hB en y b4 h y2)
    ·exact h10
   ·omega
  have f2:∀x y,m≤x→x<en→st≤y→y<m→T s (A x) (A y):=fun x y x1 x2 y1 y2=>by
   by_cases hs:st<r
   ·have h7:=i5 st (Nat.le_refl _) hs
    rw[Bool.not_eq_false',decide_eq_true_eq,show mid+m - 1 - st=en - 1 by omega] at h7
    have h9:T s (A (en - 1)) (A st):=.inl h7
    have h10:T s (A x) (A st):=by
     rcases Nat.lt_or_eq_of_le (show x≤en - 1 by omega) with h | rfl
     ·exact (hB x (en - 1) x1 h (by omega)).trans h9
     ·exact h9
    rcases Nat.lt_or_eq_of_le y1 with h | rfl
    ·exact h10.trans (hA st y b1 h y2)
    ·exact h10
   ·omega
  obtain⟨A2,hA2⟩:∃A2,A2=vI A st m en:=⟨_,rfl⟩
  have e1:(bif (bif decide ((st:Int)<(m:Int)) then decide ((m:Int)<(en:Int)) else false) then ((xP (mk n A) (st:Int) (m:Int) (en:Int) s).bind fun r62=>bif Nat.beq r62.length (mk n A).length then (some (.inr r62)) else none) else (some (.inr (mk n A))):Option (List Int⊕List Int))=some (.inr (mk n A2)):=by
   by_cases hr:st<m∧m<en
   ·rw[decide_eq_true (by omega),cond_true,decide_eq_true (by omega),cond_true,adZ A s n st m en hn hr.1 hr.2 (by omega),Option.bind_some,dP,dP,Nat.beq_refl,hA2]
    rfl
   ·have em:mk n A=mk n A2:=jS fun k _=>by
     rw[hA2]
     unfold vI
     repeat' split
     all_goals first | omega | exact congrArg A (by omega) | (congr 1;omega) | rfl
    rw[←em]
    by_cases hr1:st<m
    ·rw[decide_eq_true (by omega),cond_true,decide_eq_false (by omega),cond_false]
    ·rw[decide_eq_false (by omega),cond_false,cond_false]
  rw[e1,cn]
  -- where the elements stand now
  have g1:∀k,a≤k→k<st→A2 k=A k:=fun k _ _=>by rw[hA2];unfold vI;rw[if_neg (by omega),if_neg (by omega)]
  have g2:∀k,st≤k→k<mid→A2 k=A (k - st+m):=fun k _ _=>by rw[hA2];unfold vI;rw[if_pos (by omega)]
  have g3:∀k,mid≤k→k<en→A2 k=A (k - mid+st):=fun k _ _=>by rw[hA2];unfold vI;rw[if_neg (by omega),if_pos (by omega)];congr 1;omega
  have g4:∀k,en≤k→A2 k=A k:=fun k _=>by rw[hA2];unfold vI;rw[if_neg (by omega),if_neg (by omega)]
  have g5:∀k,k<st→A2 k=A k:=fun k _=>by rw[hA2];unfold vI;rw[if_neg (by omega),if_neg (by omega)]
  have hok2:∀k,k<n→oP s (A2 k):=fun k hk=>by
   rw[hA2]
   unfold vI
   repeat' split
   all_goals exact hok _ (by omega)
  have s12:ig A2 A a b:=by
   refine⟨fun k k1 k2=>?_,fun k k1 k2=>?_⟩
   ·by_cases q1:k<st
    ·exact⟨k,k1,k2,g1 k k1 q1⟩
    ·by_cases q2:k<mid
     ·exact⟨k - st+m,by omega,by omega,g2 k (by omega) q2⟩
     ·by_cases q3:k<en
      ·exact⟨k - mid+st,by omega,by omega,g3 k (by omega) q3⟩
      ·exact⟨k,k1,k2,g4 k (by omega)⟩
   ·by_cases q1:k<st
    ·exact⟨k,k1,k2,(g1 k k1 q1).symm⟩
    ·by_cases q2:k<m
     ·exact⟨k - st+mid,by omega,by omega,by rw[g3 _ (by omega) (by omega)];congr 1;omega⟩
     ·by_cases q3:k<en
      ·exact⟨k - m+st,by omega,by omega,by rw[g2 _ (by omega) (by omega)];congr 1;omega⟩
      ·exact⟨k,k1,k2,(g4 k (by omega)).symm⟩
  -- the left yW
  obtain⟨A3,e2,o3,s3,t3⟩:∃A3,(bif (bif decide ((a:Int)<(st:Int)) then decide ((st:Int)<(mid:Int)) else false) then ((aN fX (mk n A2,(a:Int),(st:Int),(mid:Int),s)).bind fun r60=>bif Nat.beq r60.length (mk n A2).length then (some (.inr r60)) else none) else (some (.inr (mk n A2))):Option (List Int⊕List Int))=some (.inr (mk n A3))∧lK A3 A2 a mid∧ig A3 A2 a mid∧tk s A3 a mid:=by
   by_cases hr:a<st∧st<mid
   ·obtain⟨A3,q1,q2,q3,q4⟩:=ih a st mid A2 (by omega) hr.1 hr.2 (by omega) hok2
     (fun i j h1 h2 h3=>by rw[g1 i h1 (by omega),g1 j (by omega) h3];exact hA i j h1 h2 (by omega))
     (fun i j h1 h2 h3=>by rw[g2 i h1 (by omega),g2 j (by omega) h3];exact hB _ _ (by omega) (by omega) (by omega))
     (fun i j h1 h2 h3 h4 h5=>by rw[g1 i h1 h2,g2 j h3 h4] at h5 ⊢;exact hC _ _ h1 (by omega) (by omega) (by omega) h5)
    refine⟨A3,?_,q2,q3,q4⟩
    rw[decide_eq_true (by omega),cond_true,decide_eq_true (by omega),cond_true,show aN fX (mk n A2,(a:Int),(st:Int),(mid:Int),s)=_ from q1,Option.bind_some,dP,dP,Nat.beq_refl]
    rfl
   ·refine⟨A2,?_,fun _ _=>rfl,ig.refl,fun i j h1 h2 h3=>?_⟩
    ·by_cases hr1:a<st
     ·rw[decide_eq_true (by omega),cond_true,decide_eq_false (by omega),cond_false]
     ·rw[decide_eq_false (by omega),cond_false,cond_false]
    ·by_cases q:a<st
     ·rw[g1 i h1 (by omega),g1 j (by omega) (by omega)];exact hA i j h1 h2 (by omega)
     ·rw[g2 i (by omega) (by omega),g2 j (by omega) h3];exact hB _ _ (by omega) (by omega) (by omega)
  rw[e2,cn]
  have hok3:∀k,k<n→oP s (A3 k):=fun k hk=>by
   by_cases h:a≤k∧k<mid
   ·obtain⟨k',p1,p2,p3⟩:=s3.1 k h.1 h.2
    rw[p3];exact hok2 k' (by omega)
   ·rw[o3 k (by omega)];exact hok2 k hk
  have g3':∀k,mid≤k→k<en→A3 k=A (k - mid+st):=fun k h1 h2=>by rw[o3 k (by omega)];exact g3 k h1 h2
  have g4':∀k,en≤k→A3 k=A k:=fun k h1=>by rw[o3 k (by omega)];exact g4 k h1
  -- the right yW
  obtain⟨A4,e3,o4,s4,t4⟩:∃A4,(bif (bif decide ((mid:Int)<(en:Int)) then decide ((en:Int)<(b:Int)) else false) then ((aN fX (mk n A3,(mid:Int),(en:Int),(b:Int),s)).bind fun r58=>bif Nat.beq r58.length (mk n A3).length then (some (.inr r58)) else none) else (some (.inr (mk n A3))):Option (List Int⊕List Int))=some (.inr (mk n A4))∧lK A4 A3 mid b∧ig A4 A3 mid b∧tk s A4 mid b:=by
   by_cases hr:mid<en∧en<b
   ·obtain⟨A4,q1,q2,q3,q4⟩:=ih mid en b A3 (by omega) hr.1 hr.2 h3 hok3
     (fun i j h1 h2 h3=>by rw[g3' i h1 (by omega),g3' j (by omega) h3];exact hA _ _ (by omega) (by omega) (by omega))
     (fun i j h1 h2 h3=>by rw[g4' i h1,g4' j (by omega)];exact hB _ _ (by omega) (by omega) (by omega))
     (fun i j h1 h2 h3 h4 h5=>by rw[g3' i h1 h2,g4' j h3] at h5 ⊢;exact hC _ _ (by omega) (by omega) (by omega) (by omega) h5)
    refine⟨A4,?_,q2,q3,q4⟩
    rw[decide_eq_true (by omega),cond_true,decide_eq_true (by omega),cond_true,show aN fX (mk n A3,(mid:Int),(en:Int),(b:Int),s)=_ from q1,Option.bind_some,dP,dP,Nat.beq_refl]
    rfl
   ·refine⟨A3,?_,fun _ _=>rfl,ig.refl,fun i j h1 h2 h3=>?_⟩
    ·by_cases hr1:mid<en
     ·rw[decide_eq_true (by omega),cond_true,decide_eq_false (by omega),cond_false]
     ·rw[decide_eq_false (by omega),cond_false,cond_false]
    ·by_cases q:mid<en
     ·rw[g3' i h1 (by omega),g3' j (by omega) (by omega)];exact hA _ _ (by omega) (by omega) (by omega)
     ·rw[g4' i (by omega),g4' j (by omega)];exact hB _ _ (by omega) (by omega) (by omega)
  rw[e3,cn,dP,dP,Nat.beq_refl,cond_true]
  have s34:ig A4 A2 a b:=(s4.widen o4 (by omega) (Nat.le_refl _)).trans (s3.widen o3 (Nat.le_refl _) (by omega))
  refine⟨A4,rfl,fun k hk=>?_,s34.trans s12,fun i j h1 h2 h3=>?_⟩
  ·rw[o4 k (by omega),o3 k (by omega)]
   rcases hk with hk | hk
   ·exact g5 k (by omega)
   ·exact g4 k (by omega)
  ·by_cases q1:j<mid
   ·rw[o4 i (by omega),o4 j (by omega)];exact t3 i j h1 h2 q1
   ·by_cases q2:mid≤i
    ·exact t4 i j q2 h2 h3
    ·obtain⟨i',p1,p2,p3⟩:=s3.1 i h1 (by omega)
     obtain⟨j',p4,p5,p6⟩:=s4.1 j (by omega) h3
     rw[o4 i (by omega),p3,p6,o3 j' (by omega)]
     by_cases x1:i'<st
     ·rw[g1 i' p1 x1]
      by_cases y1:j'<en
      ·rw[g3 j' p4 y1];exact hA _ _ p1 (by omega) (by omega)
      ·rw[g4 j' (by omega)];exact f1 _ _ p1 x1 (by omega) p5
     ·rw[g2 i' (by omega) p2]
      by_cases y1:j'<en
      ·rw[g3 j' p4 y1];exact f2 _ _ (by omega) (by omega) (by omega) (by omega)
      ·rw[g4 j' (by omega)];exact hB _ _ (by omega) (by omega) p5
theorem XX (s:State)(n:Nat)(hn:n≤1000000)(D0:List Int)(a0 b0:Int)(a b':Nat)(i:Nat)(hi:a<i)(hin:i<n)(x5:Int×Int×Int×List Int)(hx5:x5.1=(a:Int))(A:Nat→Int)(hok:∀k,k<n→oP s (A k))(hA:tk s A a i)(hlt:∀k,a≤k→k<i→A k<A i) :
  ∃j,a≤j∧j≤i∧lu D0 a0 b0 s x5 ((i:Int),mk n A)=some (.inr (mk n (jI A i j)))∧tk s (jI A i j) a (i+1):=by
 have key:∀t j,j=i - t→t≤i - a→(∀k,j≤k→k<i→eL s (A i)<eL s (A k))→∃j',a≤j'∧j'≤i∧lu D0 a0 b0 s x5 ((j:Int),mk n (jI A i j))=some (.inr (mk n (jI A i j')))∧(∀k,j'≤k→k<i→eL s (A i)<eL s (A k))∧(a<j'→¬eL s (A i)<eL s (A (j' - 1))):=by
  have main:∀u t j,u+t=i - a→j=i - t→(∀k,j≤k→k<i→eL s (A i)<eL s (A k))→∃j',a≤j'∧j'≤i∧lu D0 a0 b0 s x5 ((j:Int),mk n (jI A i j))=some (.inr (mk n (jI A i j')))∧(∀k,j'≤k→k<i→eL s (A i)<eL s (A k))∧(a<j'→¬eL s (A i)<eL s (A (j' - 1))):=by
   intro u
   induction u with
   | zero=>
    intro t j h1 h2 h3
    have hj:j=a:=by omega
    refine⟨a,Nat.le_refl _,by omega,?_,by rw[←hj];exact h3,fun h=>absurd h (Nat.lt_irrefl _)⟩
    rw[vZ,kB,hj,hx5]
    simp only[show decide ((a:Int)>(a:Int))=false from decide_eq_false (Int.lt_irrefl _),cond_false,eP]
   | succ u ih=>
    intro t j h1 h2 h3
    have hja:a<j:=by omega
    have hji:j≤i:=by omega
    have e1:jI A i j j=A i:=by unfold jI;rw[if_neg (by omega),if_pos rfl]
    have e2:jI A i j (j - 1)=A (j - 1):=by unfold jI;rw[if_neg (by omega),if_neg (by omega)]
    obtain⟨r,r1,r2⟩:=zQ (hok i hin) (hok (j - 1) (by omega))
    have hst:lu D0 a0 b0 s x5 ((j:Int),mk n (jI A i j))=bif decide (eL s (A i)<eL s (A (j - 1))) then lu D0 a0 b0 s x5 (((j - 1:Nat):Int),mk n (jI A i (j - 1))) else some (.inr (mk n (jI A i j))):=by
     rw[vZ,kB,hx5]
     simp only[show decide ((j:Int)>(a:Int))=true from decide_eq_true (by omega),cond_true,qj (show 1≤j by omega) (show j≤1000000000 by omega),iL (show j<n by omega),iL (show j - 1<n by omega),e1,e2,Option.bind_some,r1,r2,eP,Ae,eQ]
     cases decide (eL s (A i)<eL s (A (j - 1))) with
     | false=>rfl
     | true=>
      rw[cond_true,cond_true]
      congr 2
      apply jS
      intro k hk
      unfold jI
      repeat' split
      all_goals first | omega | exact congrArg A (by omega) | (congr 1;omega) | rfl
    rw[hst]
    cases hd:decide (eL s (A i)<eL s (A (j - 1))) with
    | false=>
     rw[decide_eq_false_iff_not] at hd
     exact⟨j,by omega,hji,rfl,h3,fun _=>hd⟩
    | true=>
     rw[decide_eq_true_eq] at hd
     refine ih (t+1) (j - 1) (by omega) (by omega) fun k k1 k2=>?_
     rcases Nat.lt_or_eq_of_le k1 with h | rfl
     ·exact h3 k (by omega) k2
     ·exact hd
  intro t j h1 h2 h3
  exact main (i - a - t) t j (by omega) h1 h3
 obtain⟨j,j1,j2,j3,j4,j5⟩:=key 0 i (by omega) (by omega) (fun k h1 h2=>by omega)
 refine⟨j,j1,j2,?_,?_⟩
 ·have h0:mk n (jI A i i)=mk n A:=jS fun k _=>by
   unfold jI
   repeat' split
   all_goals first | omega | exact congrArg A (by omega) | rfl
  rw[←h0];exact j3
 ·have hlow:∀z,a≤z→z<j→T s (A z) (A i):=fun z z1 z2=>by
   have h7:=j5 (by omega)
   have h9:T s (A (j - 1)) (A i):=by
    by_cases h8:eL s (A (j - 1))=eL s (A i)
    ·exact .inr ⟨h8,hlt (j - 1) (by omega) (by omega)⟩
    ·exact .inl (by omega)
   rcases Nat.lt_or_eq_of_le (show z≤j - 1 by omega) with h | rfl
   ·exact (hA z (j - 1) z1 h (by omega)).trans h9
   ·exact h9
  intro x y hx hxy hy
  unfold jI
  by_cases x1:j<x
  ·rw[if_pos (show j<x∧x≤i by omega),if_pos (show j<y∧y≤i by omega)]
   exact hA (x - 1) (y - 1) (by omega) (by omega) (by omega)
  ·by_cases x2:x=j
   ·rw[if_neg (show ¬(j<x∧x≤i) by omega),if_pos x2,if_pos (show j<y∧y≤i by omega)]
    exact .inl (j4 (y - 1) (by omega) (by omega))
   ·rw[if_neg (show ¬(j<x∧x≤i) by omega),if_neg x2]
    by_cases y1:j<y
    ·rw[if_pos (show j<y∧y≤i by omega)];exact hA x (y - 1) hx (by omega) (by omega)
    ·by_cases y2:y=j
     ·rw[if_neg (show ¬(j<y∧y≤i) by omega),if_pos y2];exact hlow x hx (by omega)
     ·rw[if_neg (show ¬(j<y∧y≤i) by omega),if_neg y2];exact hA x y hx hxy (by omega)
theorem KJ (s:State)(n:Nat)(hn:n≤1000000)(a b:Nat)(hab:a≤b)(hb:b≤n)(A:Nat→Int)(hok:∀k,k<n→oP s (A k))(hord:∀i j,a≤i→i<j→j<b→A i<A j) :
  ∃A',sf (mk n A) (a:Int) (b:Int) s=some (mk n A')∧lK A' A a b∧ig A' A a b∧tk s A' a b:=by
 have key:∀(u i:Nat) (A1:Nat→Int),i+u=b→a≤i→lK A1 A a i→ig A1 A a i→tk s A1 a i→∃A',mz (mk n A) (a:Int) (b:Int) s ((a:Int),(b:Int),(i:Int),mk n A1)=some (.inr (mk n A'))∧lK A' A a b∧ig A' A a b∧tk s A' a b:=by
  intro u
  induction u with
  | zero=>
   intro i A1 h1 h2 h3 h4 h5
   obtain rfl:i=b:=by omega
   refine⟨A1,?_,h3,h4,h5⟩
   rw[vY,kA]
   simp only[decide_eq_false (Int.lt_irrefl _),cond_false]
  | succ u ih=>
   intro i A1 h1 h2 h3 h4 h5
   have hok1:∀k,k<n→oP s (A1 k):=fun k hk=>by
    by_cases h:a≤k∧k<i
    ·obtain⟨k',p1,p2,p3⟩:=h4.1 k h.1 h.2
     rw[p3];exact hok k' (by omega)
    ·rw[h3 k (by omega)];exact hok k hk
   have hstep:∃A2,mz (mk n A) (a:Int) (b:Int) s ((a:Int),(b:Int),(i:Int),mk n A1)=mz (mk n A) (a:Int) (b:Int) s ((a:Int),(b:Int),((i+1:Nat):Int),mk n A2)∧lK A2 A a (i+1)∧ig A2 A a (i+1)∧tk s A2 a (i+1):=by
    have hS:∀A2,lu (mk n A) (a:Int) (b:Int) s ((a:Int),(b:Int),(i:Int),mk n A1) ((i:Int),mk n A1)=some (.inr (mk n A2))→mz (mk n A) (a:Int) (b:Int) s ((a:Int),(b:Int),(i:Int),mk n A1)=mz (mk n A) (a:Int) (b:Int) s ((a:Int),(b:Int),((i+1:Nat):Int),mk n A2):=fun A2 h=>by
     rw[vY,kA]
     simp only[show decide ((i:Int)<(b:Int))=true from decide_eq_true (by omega),cond_true,h,eP,nP (show i≤1000000000 by omega)]
    rcases Nat.lt_or_eq_of_le h2 with hai | rfl
    ·obtain⟨j,j1,j2,j3,j4⟩:=XX s n hn (mk n A) (a:Int) (b:Int) a b i hai (by omega) ((a:Int),(b:Int),(i:Int),mk n A1) rfl A1 hok1 h5 (fun k k1 k2=>by
      obtain⟨k',p1,p2,p3⟩:=h4.1 k k1 k2
      rw[p3,h3 i (by omega)]
      exact hord k' i p1 (by omega) (by omega))
     refine⟨jI A1 i j,hS _ j3,fun k hk=>?_,ig.trans (B:=A1) ⟨fun k k1 k2=>?_,fun k k1 k2=>?_⟩ (h4.widen h3 (Nat.le_refl _) (by omega)),j4⟩
     ·rw[←h3 k (by omega)]
      unfold jI
      repeat' split
      all_goals first | omega | exact congrArg A1 (by omega) | rfl
     ·unfold jI
      by_cases q1:j<k∧k≤i
      ·exact⟨k - 1,by omega,by omega,by rw[if_pos q1]⟩
      ·by_cases q2:k=j
       ·exact⟨i,by omega,by omega,by rw[if_neg q1,if_pos q2]⟩
       ·exact⟨k,by omega,by omega,by rw[if_neg q1,if_neg q2]⟩
     ·unfold jI
      by_cases q1:k=i
      ·exact⟨j,by omega,by omega,by rw[if_neg (by omega),if_pos rfl,q1]⟩
      ·by_cases q2:j≤k
       ·exact⟨k+1,by omega,by omega,by rw[if_pos (by omega)];congr 1⟩
       ·exact⟨k,by omega,by omega,by rw[if_neg (by omega),if_neg (by omega)]⟩
    ·refine⟨A1,hS _ ?_,fun k hk=>h3 k (by omega),h4.widen h3 (Nat.le_refl _) (by omega),fun x y _ _ _=>by omega⟩
     rw[vZ,kB]
     simp only[show decide ((a:Int)>(a:Int))=false from decide_eq_false (Int.lt_irrefl _),cond_false,eP]
   obtain⟨A2,e,q1,q2,q3⟩:=hstep
   obtain⟨A',e',p1,p2,p3⟩:=ih (i+1) A2 (by omega) (by omega) q1 q2 q3
   exact⟨A',e.trans e',p1,p2,p3⟩
 unfold sf
 rw[nP (show a≤1000000000 by omega)]
 rcases Nat.lt_or_eq_of_le hab with h | rfl
 ·obtain⟨A',e,p1,p2,p3⟩:=key (b - (a+1)) (a+1) A (by omega) (by omega) (fun k _=>rfl) ig.refl (fun x y _ _ _=>by omega)
  refine⟨A',?_,p1,p2,p3⟩
  rw[e,cn,dP,dP,Nat.beq_refl]
  rfl
 ·refine⟨A,?_,fun k _=>rfl,ig.refl,fun x y _ _ _=>by omega⟩
  rw[vY,kA]
  simp only[show decide (((a+1:Nat):Int)<(a:Int))=false from decide_eq_false (by omega),cond_false,cn,dP,Nat.beq_refl,cond_true]
theorem Tl (s:State)(n:Nat)(hn:n≤24)(A:Nat→Int)(hok:∀k,k<n→oP s (A k))(hord:∀i j,i<j→j<n→A i<A j) :
  ∃A',vX (mk n A) s=some (mk n A')∧ig A' A 0 n∧tk s A' 0 n:=by
 unfold vX
 have hl:len (mk n A)=(n:Int):=by unfold len;rw[dP]
 rw[hl]
 suffices h:∃A',Dj (mk n A) (n:Int) s=some (mk n A')∧ig A' A 0 n∧tk s A' 0 n by
  obtain⟨A',e,h1,h2⟩:=h
  refine⟨A',?_,h1,h2⟩
  rw[e,Option.bind_some,dP,dP,Nat.beq_refl]
  rfl
 unfold Dj
 by_cases h20:n<20
 ·obtain⟨A',e,p1,p2,p3⟩:=KJ s n (by omega) 0 n (Nat.zero_le _) (Nat.le_refl _) A hok (fun i j _ h1 h2=>hord i j h1 h2)
  refine⟨A',?_,p2,p3⟩
  rw[v6,kC]
  simp only[show decide ((20:Int)≤(n:Int))=false from decide_eq_false (by omega),cond_false,cn]
  rw[show sf (mk n A) 0 (n:Int) s=_ from e,Option.bind_some,dP,dP,Nat.beq_refl,cond_true,ro,jw]
  simp only[show decide ((20:Int)<(n:Int))=false from decide_eq_false (by omega),cond_false,cn,dP,Nat.beq_refl,cond_true]
 ·obtain⟨A1,e1,p1,p2,p3⟩:=KJ s n (by omega) 0 20 (Nat.zero_le _) (by omega) A hok (fun i j _ h1 h2=>hord i j h1 (by omega))
  have hok1:∀k,k<n→oP s (A1 k):=fun k hk=>by
   by_cases h:k<20
   ·obtain⟨k',q1,q2,q3⟩:=p2.1 k (Nat.zero_le _) h
    rw[q3];exact hok k' (by omega)
   ·rw[p1 k (by omega)];exact hok k hk
  obtain⟨A2,e2,r1,r2,r3⟩:=KJ s n (by omega) 20 n (by omega) (Nat.le_refl _) A1 hok1 (fun i j h0 h1 h2=>by rw[p1 i (by omega),p1 j (by omega)];exact hord i j h1 h2)
  have hok2:∀k,k<n→oP s (A2 k):=fun k hk=>by
   by_cases h:20≤k
   ·obtain⟨k',q1,q2,q3⟩:=r2.1 k h hk
    rw[q3];exact hok1 k' (by omega)
   ·rw[r1 k (by omega)];exact hok1 k hk
  have s2:ig A2 A 0 n:=(r2.widen r1 (Nat.zero_le _) (Nat.le_refl _)).trans (p2.widen p1 (Nat.le_refl _) (by omega))
  have hla:uK (mk n A) (n:Int) s (0,20,mk n A)=some (.inr ((n:Int),20,mk n A1)):=by
   rw[v6,kC]
   simp only[show decide ((20:Int)≤(n:Int))=true from decide_eq_true (by omega),cond_true]
   rw[show sf (mk n A) 0 20 s=_ from e1,Option.bind_some,dP,dP,Nat.beq_refl,cond_true,v6,kC]
   simp only[show aj ((20:Int)+20)=40 from by decide,show decide ((40:Int)≤(n:Int))=false from decide_eq_false (by omega),cond_false]
  rw[hla,cn]
  simp only[]
  rw[show sf (mk n A1) 20 (n:Int) s=_ from e2,Option.bind_some,dP,dP,Nat.beq_refl,cond_true]
  by_cases h20':n=20
  ·refine⟨A2,?_,s2,fun i j h0 h1 h2=>?_⟩
   ·rw[ro,jw]
    simp only[show decide ((20:Int)<(n:Int))=false from decide_eq_false (by omega),cond_false,cn,dP,Nat.beq_refl,cond_true]
   ·rw[r1 i (by omega),r1 j (by omega)];exact p3 i j h0 h1 (by omega)
  ·obtain⟨A3,e3,t1,t2,t3⟩:=ad2 s n (by omega) n 0 20 n A2 (by omega) (by omega) (by omega) (Nat.le_refl _) hok2
    (fun i j h0 h1 h2=>by rw[r1 i (by omega),r1 j (by omega)];exact p3 i j h0 h1 h2) r3
    (fun i j h0 h1 h2 h3 _=>by
     obtain⟨i',a1,a2,a3⟩:=p2.1 i (Nat.zero_le _) h1
     obtain⟨j',b1,b2,b3⟩:=r2.1 j h2 h3
     rw[r1 i (by omega),a3,b3,p1 j' (by omega)]
     exact hord i' j' (by omega) b2)
   refine⟨A3,?_,t2.trans s2,t3⟩
   have hlc:∀u7:Int×Int×List Int,u7.1=(n:Int)→uM (mk n A) (n:Int) s u7 (20,mk n A2) (0,aj (2*20),mk n A2)=some (.inr (0,mk n A2)):=fun u7 hu=>by
    rw[Se,oo,hu]
    simp only[show aj ((2:Int)*20)=40 from by decide,show decide ((40:Int)≤(n:Int))=false from decide_eq_false (by omega),cond_false]
   have hlb:uL (mk n A) (n:Int) s ((n:Int),20,mk n A1) (20,mk n A2)=some (.inr (mk n A3)):=by
    rw[ro,jw]
    simp only[show decide ((20:Int)<(n:Int))=true from decide_eq_true (by omega),cond_true]
    rw[hlc _ rfl,eP]
    simp only[show aj ((0:Int)+20)=20 from by decide,show decide ((20:Int)<(n:Int))=true from decide_eq_true (by omega),cond_true]
    rw[show J7 (mk n A2) 0 20 (n:Int) s=_ from e3,Option.bind_some,dP,dP,Nat.beq_refl,cond_true,eP,ro,jw]
    simp only[show aj ((20:Int)*2)=40 from by decide,show decide ((40:Int)<(n:Int))=false from decide_eq_false (by omega),cond_false]
   rw[hlb,cn,dP,dP,Nat.beq_refl]
   rfl
end Sy
namespace Sy
theorem acs (l:List Int):mk l.length (fun k=>(l[k]?).getD 0)=l:=by
 apply List.ext_getElem?
 intro k
 by_cases h:k<l.length
 ·rw[vC h,List.getElem?_eq_getElem h];rfl
 ·rw[List.getElem?_eq_none (by rw[dP];omega),List.getElem?_eq_none (by omega)]
theorem adO {s:State}{n:Nat}{A:Nat→Int}(h:tk s A 0 n):(mk n A).Pairwise (T s):=by
 rw[List.pairwise_iff_getElem]
 intro i j hi hj hij
 rw[dP] at hi hj
 have e1:(mk n A)[i]=A i:=Option.some.inj (by rw[←List.getElem?_eq_getElem,vC hi])
 have e2:(mk n A)[j]=A j:=Option.some.inj (by rw[←List.getElem?_eq_getElem,vC hj])
 rw[e1,e2]
 exact h i j (Nat.zero_le _) hij hj
theorem abA {n:Nat}{A B:Nat→Int}(h:ig A B 0 n){x:Int}:x∈mk n A↔x∈mk n B:=by
 rw[X6,X6]
 constructor
 ·rintro⟨k,hk,rfl⟩
  obtain⟨k',_,h2,h3⟩:=h.1 k (Nat.zero_le _) hk
  exact⟨k',h2,h3.symm⟩
 ·rintro⟨k,hk,rfl⟩
  obtain⟨k',_,h2,h3⟩:=h.2 k (Nat.zero_le _) hk
  exact⟨k',h2,h3.symm⟩
theorem Xq {s:State}:∀{a b:List Int},a.Pairwise (T s)→b.Pairwise (T s)→(∀x,x∈a↔x∈b)→a=b
 | [],[],_,_,_=>rfl
 | [],y::b,_,_,h=>by have:=(h y).2 (by simp);simp at this
 | x::a,[],_,_,h=>by have:=(h x).1 (by simp);simp at this
 | x::a,y::b,ha,hb,h=>by
  rw[List.pairwise_cons] at ha hb
  have hxy:x=y:=by
   rcases List.mem_cons.1 ((h x).1 (by simp)) with h1 | h1
   ·exact h1
   ·rcases List.mem_cons.1 ((h y).2 (by simp)) with h2 | h2
    ·exact h2.symm
    ·exact ((ha.1 y h2).trans (hb.1 x h1)).irrefl.elim
  subst hxy
  rw[Xq ha.2 hb.2 fun z=>?_]
  constructor
  ·intro hz
   rcases List.mem_cons.1 ((h z).1 (List.mem_cons_of_mem _ hz)) with h1 | h1
   ·subst h1;exact (ha.1 z hz).irrefl.elim
   ·exact h1
  ·intro hz
   rcases List.mem_cons.1 ((h z).2 (List.mem_cons_of_mem _ hz)) with h1 | h1
   ·subst h1;exact (hb.1 z hz).irrefl.elim
   ·exact h1
theorem abD (s : State)(l : List Int)(hn : l.length ≤ 24)(hok : ∀ x ∈ l,oP s x)(hord : l.Pairwise (· < ·)) : ∃ r,vX l s=some r ∧ r.length=l.length ∧ r.Pairwise (T s) ∧ ∀ x,x ∈ r ↔ x ∈ l:=by
  obtain ⟨A',e,h1,h2⟩:=Tl s l.length hn (fun k=>(l[k]?).getD 0)
    (fun k hk=>by rw [List.getElem?_eq_getElem hk]; exact hok _ (List.getElem_mem hk))
    (fun i j hij hj=>by rw [List.getElem?_eq_getElem hj,List.getElem?_eq_getElem (by omega)]; exact List.pairwise_iff_getElem.1 hord i j (by omega) hj hij)
  rw [acs] at e
  refine ⟨_,e,dP,adO h2,fun x=>?_⟩
  rw [abA h1,acs]
theorem LK (s:State)(l:List Int)(k:Int)(hl:l.length≤1000)(hok:∀x∈l,oP s x)(hk:oP s k):∀i,i≤l.length→(∀j (hj:j<l.length),i≤j→eL s k<eL s l[j])→∃i',i'≤l.length∧pR s l k (i:Int)=some (.inr (i':Int))∧(∀j (hj:j<l.length),i'≤j→eL s k<eL s l[j])∧(∀h:0<i',∃h2:i' - 1<l.length,¬eL s k<eL s l[i' - 1])
 | 0,_,h=>by
  refine⟨0,Nat.zero_le _,?_,h,fun h=>absurd h (Nat.lt_irrefl _)⟩
  rw[Hb,lZ]
  rfl
 | i+1,hi,h=>by
  have hi1:i<l.length:=by omega
  have ho:=hok _ (List.getElem_mem hi1)
  have hst:pR s l k ((i+1:Nat):Int)=bif decide (eL s k<eL s l[i]) then pR s l k (i:Int) else some (.inr ((i+1:Nat):Int)):=by
   rw[Hb,lZ]
   unfold eL
   unfold oP at ho hk
   cases h1:aI s.Duties l[i] with
   | none=>rw[h1] at ho;cases ho
   | some d=>
    cases h2:aI s.Duties k with
    | none=>rw[h2] at hk;cases hk
    | some e=>
     simp only[show decide (((i+1:Nat):Int)>0)=true from decide_eq_true (by omega),cond_true,qj (show 1≤i+1 by omega) (show i+1≤1000000000 by omega),Nat.add_sub_cancel,cl,List.getElem?_eq_getElem hi1,Option.bind_some,h1,h2,eP]
  rw[hst]
  cases hd:decide (eL s k<eL s l[i]) with
  | false=>
   rw[decide_eq_false_iff_not] at hd
   exact⟨i+1,hi,rfl,h,fun _=>⟨hi1,hd⟩⟩
  | true=>
   rw[decide_eq_true_eq] at hd
   refine LK s l k hl hok hk i (by omega) fun j hj hij=>?_
   rcases Nat.lt_or_eq_of_le hij with h3 | rfl
   ·exact h j hj h3
   ·exact hd
theorem Yy {l:List Int}{i:Nat}(h:i≤l.length):lH l (i:Int) (len l)=some (l.drop i):=by
 unfold lH len
 rw[if_pos (by omega)]
 congr 1
 rw[Int.toNat_natCast,Int.toNat_natCast,List.take_of_length_le (by rw[List.length_drop];exact Nat.le_refl _)]
theorem Ea {b:Nat}{xs ys:List Int}(h:(xs.length+ys.length)*b≤1099511627776)(h2:xs.length+ys.length≤1099511627776):gP b xs ys=some (xs++ys):=by
 unfold gP
 rw[if_pos ⟨h,h2⟩]
theorem abw (s:State)(l:List Int)(k:Int)(hl:l.length≤1000)(hok:∀x∈l,oP s x∧x<k)(hk:oP s k)(hs:l.Pairwise (T s)):∃r,v8 s l k=some r∧r.Pairwise (T s)∧(∀x,x∈r↔x∈l∨x=k)∧r.length=l.length+1:=by
 obtain⟨i,i1,i2,i3,i4⟩:=LK s l k hl (fun x hx=>(hok x hx).1) hk l.length (Nat.le_refl _) (fun j hj h=>by omega)
 unfold v8
 rw[show len l=((l.length:Nat):Int) from rfl,i2,cn]
 have l1:=List.length_take (i:=i) (l:=l)
 have l2:=List.length_drop (i:=i) (l:=l)
 have s1:lH l 0 (i:Int)=some (l.take i):=by
  unfold lH
  rw[if_pos (by omega)]
  congr 1
 rw[s1,Option.bind_some,Ea (by simp only[List.length_nil];omega) (by simp only[List.length_nil];omega),Option.bind_some,Ea (by simp only[List.length_append,List.length_nil,List.length_cons];omega) (by simp only[List.length_append,List.length_nil,List.length_cons];omega),Option.bind_some,show (((l.length:Nat):Int))=len l from rfl,Yy i1,Option.bind_some,Ea (by simp only[List.length_append,List.length_nil,List.length_cons];omega) (by simp only[List.length_append,List.length_nil,List.length_cons];omega)]
 have hlow:∀x∈l.take i,T s x k:=fun x hx=>by
  obtain⟨j,hj,rfl⟩:=List.mem_iff_getElem.1 hx
  rw[l1] at hj
  rw[List.getElem_take]
  obtain⟨h2,h3⟩:=i4 (by omega)
  have h4:eL s l[j]≤eL s l[i - 1]:=by
   rcases Nat.lt_or_eq_of_le (show j≤i - 1 by omega) with h | h
   ·exact (List.pairwise_iff_getElem.1 hs j (i - 1) (by omega) h2 h).le
   ·subst h;exact Int.le_refl _
  by_cases h5:eL s l[j]=eL s k
  ·exact .inr ⟨h5,(hok _ (List.getElem_mem (by omega))).2⟩
  ·exact .inl (by omega)
 have hhigh:∀x∈l.drop i,T s k x:=fun x hx=>by
  obtain⟨j,hj,rfl⟩:=List.mem_iff_getElem.1 hx
  rw[l2] at hj
  rw[List.getElem_drop]
  exact .inl (i3 (i+j) (by omega) (by omega))
 refine⟨_,rfl,?_,fun x=>?_,?_⟩
 ·simp only[List.nil_append]
  rw[List.pairwise_append,List.pairwise_append]
  refine⟨⟨hs.sublist (List.take_sublist _ _),by simp,fun x hx y hy=>?_⟩,hs.sublist (List.drop_sublist _ _),fun x hx y hy=>?_⟩
  ·rw[List.mem_singleton] at hy;subst hy;exact hlow x hx
  ·rcases List.mem_append.1 hx with h | h
   ·exact (hlow x h).trans (hhigh y hy)
   ·rw[List.mem_singleton] at h;subst h;exact hhigh y hy
 ·simp only[List.nil_append,List.mem_append,List.mem_singleton]
  have:x∈l↔x∈l.take i∨x∈l.drop i:=by rw[←List.mem_append,List.take_append_drop]
  rw[this]
  constructor
  ·rintro ((h | h) | h)
   ·exact .inl (.inl h)
   ·exact .inr h
   ·exact .inl (.inr h)
  ·rintro ((h | h) | h)
   ·exact .inl (.inl h)
   ·exact .inr h
   ·exact .inl (.inr h)
 ·simp only[List.length_append,List.length_nil,List.length_cons];omega
def openB (c:Contract)(s:State)(fr to:Int)(k:Nat):Bool:=match s.Duties[k]? with
 | some d=>(match aI c.Clauses d.Clause with
  | some e=>(d.Status==1)&&((decide (fr<0)||(e.Party==fr))&&(decide (to<0)||(e.Other==to)))
  | none=>false)
 | none=>false
theorem Pb {s:State}{k:Nat}(h:k<s.Duties.length):oP s (k:Int):=by unfold oP;rw[cl,List.getElem?_eq_getElem h];rfl
theorem spec_open (c:Contract)(s:State)(fr to:Int)(hd:s.Duties.length≤24)(hcl:∀k (h:k<s.Duties.length),∃e,aI c.Clauses s.Duties[k].Clause=some e) :
  ∃r,Dq c s fr to=some r∧r.Pairwise (T s)∧(∀x,x∈r↔∃i,i<s.Duties.length∧openB c s fr to i=true∧x=(i:Int))∧r.length≤24:=by
 obtain⟨y,⟨r,rfl,r1,r2,r3⟩,h⟩:=jf (L:=fun i (l:List Int)=>lw c s fr to ((i:Int),l)) s.Duties.length
  (fun n l=>l.Pairwise (T s)∧(∀x,x∈l↔∃i,i<n∧openB c s fr to i=true∧x=(i:Int))∧l.length≤n)
  (fun y=>∃r,y=.inr r∧r.Pairwise (T s)∧(∀x,x∈r↔∃i,i<s.Duties.length∧openB c s fr to i=true∧x=(i:Int))∧r.length≤24) (s:=[])
  (by
   rintro n l hn ⟨j1,j2,j3⟩
   have he:=List.getElem?_eq_getElem hn
   obtain⟨e,hce⟩:=hcl n hn
   have hst:lw c s fr to ((n:Int),l)=bif openB c s fr to n then (v8 s l (n:Int)).bind fun r=>lw c s fr to (((n+1:Nat):Int),r) else lw c s fr to (((n+1:Nat):Int),l):=by
    rw[G4,lY]
    simp only[cp,decide_eq_true hn,cond_true,cl,he,Option.bind_some,hce,eQ,dS (show n<9223372036854775807 by omega),openB]
    cases s.Duties[n].Status==1<;>cases decide (fr<0)<;>cases e.Party==fr<;>cases decide (to<0)<;>cases e.Other==to<;>simp[ch]<;>cases v8 s l (n:Int)<;>rfl
   cases hb:openB c s fr to n with
   | false=>
    refine .inl ⟨l,⟨j1,fun x=>?_,by omega⟩,by rw[hst,hb];rfl⟩
    rw[j2]
    constructor
    ·rintro⟨i,h1,h2⟩;exact⟨i,by omega,h2⟩
    ·rintro⟨i,h1,h2,h3⟩
     rcases Nat.lt_or_eq_of_le (Nat.le_of_lt_succ h1) with h4 | rfl
     ·exact⟨i,h4,h2,h3⟩
     ·rw[hb] at h2;cases h2
   | true=>
    obtain⟨r,e1,r1,r2,r3⟩:=abw s l (n:Int) (by omega) (fun x hx=>by
     obtain⟨i,h1,h2,rfl⟩:=(j2 x).1 hx
     exact⟨Pb (by omega),by omega⟩) (Pb hn) j1
    refine .inl ⟨r,⟨r1,fun x=>?_,by omega⟩,by rw[hst,hb,cond_true,e1];rfl⟩
    rw[r2,j2]
    constructor
    ·rintro (⟨i,h1,h2⟩ | rfl)
     ·exact⟨i,by omega,h2⟩
     ·exact⟨n,by omega,hb,rfl⟩
    ·rintro⟨i,h1,h2,h3⟩
     rcases Nat.lt_or_eq_of_le (Nat.le_of_lt_succ h1) with h4 | rfl
     ·exact .inl ⟨i,h4,h2,h3⟩
     ·exact .inr h3)
  (by
   rintro l ⟨j1,j2,j3⟩
   refine⟨.inr l,⟨l,rfl,j1,j2,by omega⟩,?_⟩
   show lw c s fr to ((s.Duties.length:Int),l)=_
   rw[G4,lY]
   simp only[cp,decide_eq_false (Nat.lt_irrefl _),cond_false]) ⟨List.Pairwise.nil,fun x=>by simp,by simp⟩
 refine⟨r,?_,r1,r2,r3⟩
 unfold Dq
 rw[show lw c s fr to (0,[])=_ from h]
 rfl
theorem LG (p : Nat→Bool) : ∀ n,(jK p n).Pairwise (· < ·) ∧ ∀ x ∈ jK p n,∃ i,i < n ∧ p i=true ∧ x=(i : Int)
  | 0=>⟨List.Pairwise.nil,fun x hx=>by simp [jK] at hx⟩
  | n + 1=>by
    obtain ⟨h1,h2⟩:=LG p n
    rw [jK]
    have hm : ∀ x ∈ (bif p n then [(n : Int)] else []),x=(n : Int) ∧ p n=true:=fun x hx=>by
      cases hp : p n with
      | true=>rw [hp,cond_true,List.mem_singleton] at hx; exact ⟨hx,rfl⟩
      | false=>rw [hp] at hx; simp at hx
    refine ⟨?_,fun x hx=>?_⟩
    · rw [List.pairwise_append]
      refine ⟨h1,by cases p n <;> simp,fun x hx y hy=>?_⟩
      obtain ⟨i,q1,_,rfl⟩:=h2 x hx
      rw [(hm y hy).1]
      omega
    · rcases List.mem_append.1 hx with h | h
      · obtain ⟨i,q1,q2,q3⟩:=h2 x h
        exact ⟨i,by omega,q2,q3⟩
      · exact ⟨n,by omega,(hm x h).2,(hm x h).1⟩
theorem LH (p:Nat→Bool):∀{n i:Nat},i<n→p i=true→(i:Int)∈jK p n
 | n+1,i,h,hp=>by
  rw[jK,List.mem_append]
  rcases Nat.lt_or_eq_of_le (Nat.le_of_lt_succ h) with h1 | rfl
  ·exact .inl (LH p h1 hp)
  ·exact .inr (by rw[hp];simp)
end Sy
theorem tR {c:Contract}{s:State}{names:List ac}(f:StF c s names)(k:Nat)(h:k<s.Duties.length):∃e,aI c.Clauses s.Duties[k].Clause=some e:=by
 have h1:=f.dut k h
 unfold qw at h1
 rw[List.getElem?_eq_getElem h] at h1
 simp only[Bool.and_eq_true] at h1
 have h2:=h1.1
 unfold wv at h2
 cases hg:aI c.Clauses s.Duties[k].Clause with
 | none=>rw[hg] at h2;cases h2
 | some e=>exact⟨e,rfl⟩
theorem abR (c:Contract)(s:State)(ps:List Int)(hc:fN c)(hs:jW s)(hp:ps.length≤1000):∃b,ss c s=some b∧BR c s ps=some (b&&ps.all (fun p=>eS p 0 (aj (len c.Parties - 1))))∧(b=true→jD c=true∧∃names,pS c=some names∧vm c=some names∧StF c s names):=by
 obtain⟨b,g1,g2,g3⟩:=ahc c s hc hs
 refine⟨b,g1,?_,g3⟩
 unfold BR
 rw[g2,Option.bind_some]
 cases b with
 | false=>rfl
 | true=>
  unfold JW J4
  rw[cond_true,yL (js (L:=uF ps c) (a:=ps) (p:=fun x=>BT x c) (q:=fun p=>!eS p 0 (aj (len c.Parties - 1))) (fun x _=>by rw[BT,lD];rfl) (fun x=>by rw[Sa,oe]) (by omega))]
  have ha:(ps.any fun p=>!eS p 0 (aj (len c.Parties - 1)))=!(ps.all fun p=>eS p 0 (aj (len c.Parties - 1))):=by rw[List.not_all_eq_any_not]
  rw[ha,Option.bind_some,Bool.not_not,Bool.true_and]
  rfl
theorem Yh (c:Contract)(s:State)(p:Int){b:Bool}(h:ss c s=some b):Ds c s p=some (b&&eS p 0 (aj (len c.Parties - 1))):=by
 unfold Ds
 rw[h,Option.bind_some]
 cases b with
 | false=>rfl
 | true=>rw[cond_true,mU];rfl
namespace Sy
theorem pick_two (s:State)(p:Nat→Bool)(hd:s.Duties.length≤24){r:List Int}(r1:r.Pairwise (T s))(r2:∀x,x∈r↔∃i,i<s.Duties.length∧p i=true∧x=(i:Int)) :
  vX (jK p s.Duties.length) s=some r∧r.length=(jK p s.Duties.length).length:=by
 obtain⟨a1,a2⟩:=LG p s.Duties.length
 have a3:=zl p s.Duties.length
 obtain⟨r',e,q1,q2,q3⟩:=abD s (jK p s.Duties.length) (by omega) (fun x hx=>by
  obtain⟨i,h1,_,rfl⟩:=a2 x hx
  exact Pb h1) a1
 have:r'=r:=Xq q2 r1 fun x=>by
  rw[q3,r2]
  constructor
  ·intro hx
   exact a2 x hx
  ·rintro⟨i,h1,h2,rfl⟩
   exact LH p h1 h2
 subst this
 exact⟨e,q1⟩
end Sy
def nH (c:Contract)(s:State)(a:ac)(x:Int):Bool:=match aI s.Duties x with
 | some d=>(match aI c.Clauses d.Clause with
  | some e=>e.Action==a
  | none=>false)
 | none=>false
theorem Xw (c:Contract)(s:State)(p:Int)(a:ac){names:List ac}(f:StF c s names)(hp:0≤p){r:List Int}(r1:r.Pairwise (Sy.T s))(r2:∀x,x∈r↔∃i,i<s.Duties.length∧Sy.openB c s p (-1) i=true∧x=(i:Int)):Oc c s (p,a)=some (r.filter (nH c s a)):=by
 have hd:=f.dl
 have e1:=abu (L:=fun i out=>qI c s (p,a) ((i:Int),out)) s.Duties.length (by omega) (fun i=>Sy.openB c s p (-1) i&&(nH c s a) (i:Int))
  (by
   intro i out hi ho
   have he:=List.getElem?_eq_getElem hi
   obtain⟨e,hc⟩:=tR f i hi
   show qI c s (p,a) ((i:Int),out)=_
   rw[Lf,nD]
   have hdu:nH c s a (i:Int)=(e.Action==a):=by unfold nH;simp only[cl,he,hc]
   unfold QY
   simp only[cp,decide_eq_true hi,cond_true,cl,he,hc,Option.bind_some,eQ,Sy.openB,hdu,dS (show i<9223372036854775807 by omega)]
   rw[decide_eq_false (show ¬p<0 by omega)]
   simp only[show decide ((-1:Int)<0)=true from rfl,Bool.false_or,Bool.true_or,Bool.and_true,Bool.true_and]
   cases s.Duties[i].Status==1<;>cases e.Party==p<;>cases e.Action==a<;>simp[ch]<;>cases gP 8 out [(i:Int)]<;>rfl)
  (by
   intro out
   show qI c s (p,a) ((s.Duties.length:Int),out)=_
   rw[Lf,nD]
   simp only[cp,decide_eq_false (Nat.lt_irrefl _),cond_false])
 obtain⟨q1,q2⟩:=Sy.pick_two s (fun i=>Sy.openB c s p (-1) i&&(nH c s a) (i:Int)) hd (r:=r.filter (nH c s a)) (r1.filter _) (fun x=>by
  rw[List.mem_filter,r2]
  constructor
  ·rintro⟨⟨i,h1,h2,rfl⟩,h3⟩
   exact⟨i,h1,by rw[h2,h3];rfl,rfl⟩
  ·rintro⟨i,h1,h2,rfl⟩
   rw[Bool.and_eq_true] at h2
   exact⟨⟨i,h1,h2.1,rfl⟩,h2.2⟩)
 unfold Oc
 rw[show qI c s (p,a) (0,[])=_ from e1,cn,q1,Option.bind_some,q2,Nat.beq_refl]
 rfl
theorem adk (c:Contract)(s:State)(p:Int)(a:ac){r:List Int}(hl:r.length≤24)(hr:∀x∈r,∃d e,aI s.Duties x=some d∧aI c.Clauses d.Clause=some e):mB c s p a r 0=some (bif decide (len (r.filter (nH c s a))>0) then .inl (1,true) else .inr ()):=by
 obtain⟨y,h1,h2⟩:=jf (L:=fun i (_:Unit)=>mB c s p a r (i:Int)) r.length
  (fun i _=>∀j (h:j<r.length),j<i→nH c s a r[j]=false) (fun y=>y=bif decide (len (r.filter (nH c s a))>0) then .inl (1,true) else .inr ()) (s:=())
  (by
   rintro i ⟨⟩ hi hj
   have he:=List.getElem?_eq_getElem hi
   obtain⟨d,e,hd,hc⟩:=hr _ (List.getElem_mem hi)
   have hdu:nH c s a r[i]=(e.Action==a):=by unfold nH;simp only[hd,hc]
   have hst:mB c s p a r (i:Int)=bif nH c s a r[i] then some (.inl (1,true)) else mB c s p a r ((i+1:Nat):Int):=by
    rw[G1,lX]
    simp only[cp,decide_eq_true hi,cond_true,cl,he,hd,hc,Option.bind_some,dS (show i<9223372036854775807 by omega),hdu]
   cases hq:nH c s a r[i] with
   | true=>
    refine .inr ⟨_,rfl,?_⟩
    rw[hst,hq,cond_true,decide_eq_true (by
     have:=List.length_pos_of_mem (List.mem_filter.2 ⟨List.getElem_mem hi,hq⟩)
     unfold len
     omega),cond_true]
   | false=>
    refine .inl ⟨(),fun j h hji=>?_,by rw[hst,hq,cond_false]⟩
    rcases Nat.lt_or_ge j i with h3 | h3
    ·exact hj j h h3
    ·obtain rfl:j=i:=by omega
     exact hq)
  (by
   rintro⟨⟩ hj
   refine⟨_,rfl,?_⟩
   have h0:r.filter (nH c s a)=[]:=List.filter_eq_nil_iff.2 fun x hx=>by
    obtain⟨j,h,rfl⟩:=List.mem_iff_getElem.1 hx
    rw[hj j h h]
    decide
   rw[h0]
   show mB c s p a r (r.length:Int)=_
   rw[G1,lX]
   simp only[cp,decide_eq_false (Nat.lt_irrefl _),cond_false]
   rfl)
  (fun j h hj=>absurd hj (Nat.not_lt_zero j))
 rw[←h1]
 exact h2
theorem agM (c:Contract)(s:State)(p:Int)(a:ac)(hc:fN c)(hs:jW s)(ha:a.length≤1048576):∃r,Dn c s p a=some r∧Nk c s p a=some r:=by
 obtain⟨b,g1,g2,g3⟩:=abR c s [p] hc hs (by simp)
 unfold Dn Nk
 rw[Yh c s p g1,g2]
 cases b with
 | false=>exact⟨_,rfl,rfl⟩
 | true=>
  obtain⟨h,names,n1,n2,f⟩:=g3 rfl
  simp only[List.all_cons,List.all_nil,Bool.and_true,Bool.true_and,Option.bind_some,oT a ha,oM a ha]
  cases hf:eS p 0 (aj (len c.Parties - 1)) with
  | false=>exact⟨_,rfl,rfl⟩
  | true=>
   cases hn:gJ a with
   | false=>exact⟨_,rfl,rfl⟩
   | true=>
    simp only[Bool.not_true,cond_false,cn,adN c s hs n2,Option.bind_some]
    cases ho:s.Over with
    | true=>exact⟨_,rfl,rfl⟩
    | false=>
     obtain⟨r,e,r1,r2,r3⟩:=Sy.spec_open c s p (-1) f.dl (tR f)
     rw[mL] at hf
     have e2:=adk c s p a r3 (fun x hx=>by
      obtain⟨i,h1,_,rfl⟩:=(r2 x).1 hx
      obtain⟨e,hc⟩:=tR f i h1
      exact⟨_,e,by rw[cl,List.getElem?_eq_getElem h1],hc⟩)
     unfold Kh JN
     simp only[cond_false,e,e2,Xw c s p a f hf.1 r1 r2,Option.bind_some,Tg c s _ _ _ _ h hc.2.1 hs.2.1.1,SZ c s _ _ _ _ _ _ h hc.2.1 hs.2.1.1]
     cases decide (len (r.filter (nH c s a))>0) with
     | true=>exact⟨_,rfl,rfl⟩
     | false=>
      simp only[cond_false,cn]
      cases decide (Ef c s 3 p a≥0)<;>simp only[cond_true,cond_false,Option.bind_some]<;>cases decide (Ef c s 2 p a≥0)<;>cases decide (Ef c s 4 p a≥0)<;>exact⟨_,rfl,rfl⟩
theorem sX (c:Contract)(hc:Zu c)(s:State)(hs:En s)(p:Int)(hp:pc p)(a:ac)(ha:zg a):fu c s p a=some true:=by
 unfold fu
 by_cases hal:a.length≤1048576
 ·rw[decide_eq_false (by unfold len;omega),cond_false]
  obtain⟨r1,e1,q1⟩:=QS c hc (l:=1048576) (by decide) (by decide)
  rw[e1,Option.bind_some]
  rcases q1 with q1 | ⟨q1,p1,s1⟩
  ·rw[decide_eq_true q1,cond_true]
  rw[decide_eq_false (by omega),cond_false]
  obtain⟨r2,e2,q2⟩:=abJ s hs (l:=r1) (by omega) (by omega)
  rw[e2,Option.bind_some]
  rcases q2 with q2 | ⟨q2,p2,s2⟩
  ·rw[decide_eq_true q2,cond_true]
  rw[decide_eq_false (by omega),cond_false]
  obtain⟨r,g1,g2⟩:=agM c s p a s1 s2 hal
  simp only[QT c s1,abL s s2,Option.bind_some,g1,g2,QG c s1,aa4 s s2,beq_self_eq_true,bne_self_eq_false,Bool.not_true,eQ,cond_false]
 ·rw[decide_eq_true (by unfold len;omega),cond_true]
end Go.Ln
