/-
  The plain law.
-/
import Derived.Test.YtcfddlacocdpoaaGreatDoorFnExactPartyReportLib
import Derived.Sort.AssemblyPlain
import Derived.Sort.LotD4
import Derived.Sort.LotD5
set_option linter.unusedVariables false
set_option linter.unusedSimpArgs false
set_option maxRecDepth 100000
namespace Go.Ln
open Go
theorem v6 {α:Type}{b:Nat}{xs:List α}{y:α}(h:(xs.length+1)*b≤1099511627776)(h2:xs.length+1≤1099511627776):iC b xs [y]=some (xs++[y]):=by
 unfold iC
 rw[if_pos]
 simp only[List.length_cons,List.length_nil,mX,Nat.zero_add]
 omega
namespace StrL
theorem lt_irrefl:∀(a:ac),Op.bytesLess a a=false
 | []=>rfl
 | x::xs=>by
  have h:¬x<x:=by simp
  simp[Op.bytesLess,h,lt_irrefl xs]
theorem lt_trans:∀(a b c:ac),Op.bytesLess a b=true→Op.bytesLess b c=true→Op.bytesLess a c=true
 | _,[],_,h,_=>by simp[Op.bytesLess] at h
 | _,_::_,[],_,h=>by simp[Op.bytesLess] at h
 | [],_::_,_::_,_,_=>rfl
 | x::xs,y::ys,z::zs,h1,h2=>by
  simp only[Op.bytesLess,Bool.or_eq_true,decide_eq_true_eq,Bool.and_eq_true,beq_iff_eq] at h1 h2 ⊢
  rcases h1 with h1 | ⟨h1,h3⟩<;>rcases h2 with h2 | ⟨h2,h4⟩
  ·exact .inl (UInt8.lt_trans h1 h2)
  ·subst h2;exact .inl h1
  ·subst h1;exact .inl h2
  ·subst h1;subst h2;exact .inr ⟨rfl,lt_trans xs ys zs h3 h4⟩
def Lt (a b:ac):Prop:=Op.bytesLess a b=true
theorem tri (a b:ac):Lt a b∨a=b∨Lt b a:=by
 have:=Ow a b
 unfold Lt
 cases h:Op.bytesLess a b
 ·cases h2:a==b
  ·rw[h,h2] at this;exact .inr (.inr this.symm)
  ·exact .inr (.inl (by simpa using h2))
 ·exact .inl rfl
theorem Lt.irrefl {a:ac}(h:Lt a a):False:=by unfold Lt at h;rw[lt_irrefl] at h;cases h
theorem Lt.trans {a b c:ac}(h:Lt a b)(h2:Lt b c):Lt a c:=lt_trans a b c h h2
theorem Lt.asymm {a b:ac}(h:Lt a b)(h2:Lt b a):False:=(h.trans h2).irrefl
def Le (a b:ac):Prop:=¬Lt b a
theorem Le.lt_or {a b:ac}(h:Le a b):Lt a b∨a=b:=by
 rcases tri a b with h1 | h1 | h1
 ·exact .inl h1
 ·exact .inr h1
 ·exact (h h1).elim
theorem Le.trans {a b c:ac}(h:Le a b)(h2:Le b c):Le a c:=by
 intro h3
 rcases h.lt_or with h4 | rfl
 ·rcases h2.lt_or with h5 | rfl
  ·exact (h4.trans h5).asymm h3
  ·exact h h3
 ·exact h2 h3
theorem Lt.le {a b:ac}(h:Lt a b):Le a b:=fun h2=>h.asymm h2
theorem Lt.ne {a b:ac}(h:Lt a b):a≠b:=fun e=>by subst e;exact h.irrefl
theorem Le.le_lt {a b c:ac}(h:Le a b)(h2:Lt b c):Lt a c:=by
 rcases h.lt_or with h3 | rfl
 ·exact h3.trans h2
 ·exact h2
end StrL
namespace StrL
def gS (a:List ac)(j:Nat):Bool:=match j with
 | 0=>true
 | j+1=>match a[j]?,a[j+1]? with
  | some x,some y=>y != x
  | _,_=>true
def dd (a:List ac):List ac:=mg (gS a) a a.length
theorem J6 {a:List ac}{k:Nat}(h:∀j x y,j+1<k→a[j]?=some x→a[j+1]?=some y→y≠x)(hn:k≤a.length):mg (gS a) a k=a.take k:=by
 have e:∀n,n≤k→mg (gS a) a n=a.take n:=by
  intro n
  induction n with
  | zero=>intro _;rfl
  | succ n ih=>
   intro hk
   have h1:n<a.length:=by omega
   have hx:=List.getElem?_eq_getElem h1
   rw[DX ?_ hx,ih (by omega),List.take_add_one,hx]
   ·rfl
   ·cases n with
    | zero=>rfl
    | succ n=>
     have h2:=List.getElem?_eq_getElem (show n<a.length by omega)
     simp only[gS,h2,hx]
     simpa using h n _ _ (by omega) h2 hx
 exact e k (Nat.le_refl k)
theorem Q3 {s z:List ac}{x j:Nat}(h1:x≤j)(h2:j<s.length):wh z (0+Int.toNat (x:Int)) (Int.toNat (len s) - Int.toNat (x:Int)) ((j:Int) - (x:Int))=z[j]?:=by
 unfold wh
 simp only[len,Int.toNat_natCast,Nat.zero_add]
 rw[if_pos (by omega),show x+((j:Int) - (x:Int)).toNat=j by omega]
theorem N5 (s:List ac)(x:Nat)(hl:s.length≤1048576)(hx:x<s.length)(h0:mg (gS s) s (x+1)=s.take x):∃(i:Nat) (z:List ac),lf s (x:Int) ((x:Int),1,s)=some (.inr ((i:Int),z))∧z.length=s.length∧i≤z.length∧z.take i=dd s:=by
 have hD:=acV (L:=fun q:Int×Int×List ac=>lf s (x:Int) (q.1,q.2.1 - (x:Int),q.2.2)) (keep:=gS s) (a:=s) (i0:=x)
  (by
   intro i j z y hz hi hij hy hy2 hy3
   obtain⟨h1,_⟩:=List.getElem?_eq_some_iff.1 hy
   have h2:=List.getElem?_eq_getElem (show j - 1<s.length by omega)
   have h4:=List.getElem?_eq_getElem (show i<z.length by omega)
   show lf s (x:Int) ((i:Int),(j:Int) - (x:Int),z)=bif gS s j then lf s (x:Int) (((i+1:Nat):Int),((j+1:Nat):Int) - (x:Int),z.set i y) else lf s (x:Int) ((i:Int),((j+1:Nat):Int) - (x:Int),z)
   have w1:ai ((j:Int) - (x:Int) - 1)=((j - 1:Nat):Int) - (x:Int):=by rw[fu (by omega) (by omega)];omega
   have w2:ai ((j:Int) - (x:Int)+1)=((j+1:Nat):Int) - (x:Int):=by rw[fu (by omega) (by omega)];omega
   have c1:decide ((j:Int) - (x:Int)<(((Int.toNat (len s) - Int.toNat (x:Int)):Nat):Int))=true:=decide_eq_true (by simp only[len,Int.toNat_natCast];omega)
   rw[FN,lQ]
   simp only[c1,cond_true,w1,w2,Q3 (show x≤j by omega) h1,Q3 (show x≤j - 1 by omega) (show j - 1<s.length by omega),hy2,hy3,h2,Option.bind_some,ch,Ec,h4,dm (show i<9223372036854775807 by omega)]
   have hk:gS s j=(y != s[j - 1]):=by
    cases j with
    | zero=>omega
    | succ j=>
     simp only[gS,hy,show j+1 - 1=j by omega] at h2 ⊢
     simp only[h2]
   rw[hk]
   show _=bif !(y==s[j - 1]) then _ else _
   cases y==s[j - 1]<;>rfl)
  (by
   intro i j z hz hi hij hj
   show lf s (x:Int) ((i:Int),(j:Int) - (x:Int),z)=_
   have c1:decide ((j:Int) - (x:Int)<(((Int.toNat (len s) - Int.toNat (x:Int)):Nat):Int))=false:=decide_eq_false (by simp only[len,Int.toNat_natCast];omega)
   rw[FN,lQ]
   simp only[c1,cond_false])
  h0 hx
 simp only[show ((x+1:Nat):Int) - (x:Int)=1 by omega] at hD
 exact hD
theorem yA (s:List ac)(hl:s.length≤1048576):∀(n k:Nat),k+n=s.length→1≤k→(∀j x y,j+1<k→s[j]?=some x→s[j+1]?=some y→y≠x)→∃y,rF s (k:Int)=some y∧(y=.inl (dd s)∨y=.inr (dd s))
 | 0,k,hk,h1,h=>by
  refine⟨.inr s,?_,.inr ?_⟩
  ·rw[FM,lP,ce,decide_eq_false (by omega),cond_false]
  ·unfold dd
   rw[J6 (k:=s.length) (fun j x y hj=>h j x y (by omega)) (Nat.le_refl _),List.take_length]
 | n+1,k,hk,h1,h=>by
  have h2:k<s.length:=by omega
  have e1:=List.getElem?_eq_getElem h2
  have e2:=List.getElem?_eq_getElem (show k - 1<s.length by omega)
  have w1:ai ((k:Int) - 1)=((k - 1:Nat):Int):=by rw[fu (by omega) (by omega)];omega
  rw[FM,lP,ce,decide_eq_true h2,cond_true,w1,ch,ch,e1,e2,Option.bind_some,Option.bind_some,dm (by omega)]
  by_cases hq:s[k]=s[k - 1]
  ·rw[beq_iff_eq.2 hq,cond_true]
   have e3:jS s.length (k:Int) (len s)=some ():=by unfold jS;rw[if_pos (by simp only[len];omega)]
   have hno:gS s k=false:=by
    cases k with
    | zero=>omega
    | succ k=>
     simp only[show k+1 - 1=k by omega] at e2 hq
     simp only[gS,e1,e2,hq,bne_self_eq_false]
   obtain⟨i,z,e,hz,hi,ht⟩:=N5 s k hl h2 (by rw[Kc hno,J6 h (by omega)])
   rw[e3,Option.bind_some,e,eG]
   refine⟨.inl (dd s),?_,.inl rfl⟩
   rw[←ht]
   exact ahB (c:=([]:ac)) (F:=fun p19=>some (Sum.inl p19)) hi
  ·rw[beq_eq_false_iff_ne.2 hq,cond_false]
   refine yA s hl n (k+1) (by omega) (by omega) fun j x y hj hx hy=>?_
   by_cases hj2:j+1<k
   ·exact h j x y hj2 hx hy
   ·obtain rfl:k=j+1:=by omega
    simp only[show j+1 - 1=j by omega] at e2 hq
    rw[e2] at hx
    rw[e1] at hy
    cases hx
    cases hy
    exact hq
theorem compact_val (s:List ac)(hl:s.length≤1048576):CP s=some (dd s):=by
 unfold CP
 by_cases h:len s<2
 ·rw[decide_eq_true h,cond_true]
  have h':s.length<2:=by simp only[len] at h;omega
  unfold dd
  rw[J6 (k:=s.length) (fun j x y hj=>by omega) (Nat.le_refl _),List.take_length]
 ·rw[decide_eq_false h,cond_false]
  have h':¬s.length<2:=by simp only[len] at h;omega
  obtain⟨y,hy,hq⟩:=yA s hl (s.length - 1) 1 (by omega) (Nat.le_refl _) (fun j x y hj=>by omega)
  rw[show rF s 1=some y from hy]
  rcases hq with rfl | rfl<;>rfl
end StrL
namespace StrL
theorem KR {a:List ac}(hs:a.Pairwise Le):∀n,n≤a.length→(mg (gS a) a n).Pairwise Lt∧∀x,x∈mg (gS a) a n↔x∈a.take n
 | 0,_=>by
  have e:mg (gS a) a 0=[]:=rfl
  rw[e]
  exact⟨List.Pairwise.nil,fun x=>by simp⟩
 | n+1,hn=>by
  obtain⟨h1,h2⟩:=KR hs n (by omega)
  have hlt:n<a.length:=by omega
  have hx:=List.getElem?_eq_getElem hlt
  have hle:∀y∈a.take n,Le y a[n]:=by
   intro y hy
   obtain⟨i,hi,rfl⟩:=List.mem_iff_getElem.1 hy
   rw[List.length_take] at hi
   rw[List.getElem_take]
   exact List.pairwise_iff_getElem.1 hs i n (by omega) hlt (by omega)
  cases hk:gS a n with
  | true=>
   rw[DX hk hx]
   have hstrict:∀y∈a.take n,Lt y a[n]:=by
    intro y hy
    cases n with
    | zero=>simp at hy
    | succ j=>
     have h3:=List.getElem?_eq_getElem (show j<a.length by omega)
     have hne:a[j+1]≠a[j]:=by
      simp only[gS,h3,hx] at hk
      simpa using hk
     have hj:Le a[j] a[j+1]:=List.pairwise_iff_getElem.1 hs j (j+1) (by omega) hlt (by omega)
     obtain⟨i,hi,rfl⟩:=List.mem_iff_getElem.1 hy
     rw[List.length_take] at hi
     rw[List.getElem_take]
     have hlt2:Lt a[j] a[j+1]:=hj.lt_or.resolve_right fun e=>hne e.symm
     by_cases e:i=j
     ·subst e;exact hlt2
     ·have:=List.pairwise_iff_getElem.1 hs i j (by omega) (by omega) (by omega)
      exact this.le_lt hlt2
   refine⟨List.pairwise_append.2 ⟨h1,List.pairwise_singleton _ _,fun y hy z hz=>?_⟩,fun x=>?_⟩
   ·rw[List.mem_singleton] at hz
    subst hz
    exact hstrict y ((h2 y).1 hy)
   ·rw[List.take_add_one,hx,List.mem_append,List.mem_append,h2]
    rfl
  | false=>
   rw[Kc hk]
   refine⟨h1,fun x=>?_⟩
   rw[h2,List.take_add_one,hx,List.mem_append]
   constructor
   ·exact .inl
   ·rintro (h | h)
    ·exact h
    ·have e:x=a[n]:=by simpa using h
     subst e
     cases n with
     | zero=>simp[gS] at hk
     | succ j=>
      have h3:=List.getElem?_eq_getElem (show j<a.length by omega)
      simp only[gS,h3,hx] at hk
      have e:a[j+1]=a[j]:=by simpa using hk
      rw[e]
      have:a[j]∈a.take (j+1):=by
       rw[List.mem_iff_getElem]
       exact⟨j,by rw[List.length_take];omega,by rw[List.getElem_take]⟩
      exact this
theorem dd_ok {a:List ac}(hs:a.Pairwise Le):(dd a).Pairwise Lt∧∀x,x∈dd a↔x∈a:=by
 have:=KR hs a.length (Nat.le_refl _)
 rw[List.take_length] at this
 exact this
theorem asc_uniq:∀{a b:List ac},a.Pairwise Lt→b.Pairwise Lt→(∀x,x∈a↔x∈b)→a=b
 | [],[],_,_,_=>rfl
 | [],y::b,_,_,h=>absurd ((h y).2 (by simp)) (by simp)
 | x::a,[],_,_,h=>absurd ((h x).1 (by simp)) (by simp)
 | x::a,y::b,ha,hb,h=>by
  rw[List.pairwise_cons] at ha hb
  have e:x=y:=by
   have h1:=(h x).1 (by simp)
   have h2:=(h y).2 (by simp)
   rw[List.mem_cons] at h1 h2
   rcases h1 with h1 | h1
   ·exact h1
   ·rcases h2 with h2 | h2
    ·exact h2.symm
    ·exact ((ha.1 y h2).asymm (hb.1 x h1)).elim
  subst e
  rw[asc_uniq ha.2 hb.2 fun z=>?_]
  constructor
  ·intro hz
   have h1:=(h z).1 (List.mem_cons_of_mem _ hz)
   rcases List.mem_cons.1 h1 with e | h1
   ·subst e;exact (ha.1 z hz).irrefl.elim
   ·exact h1
  ·intro hz
   have h1:=(h z).2 (List.mem_cons_of_mem _ hz)
   rcases List.mem_cons.1 h1 with e | h1
   ·subst e;exact (hb.1 z hz).irrefl.elim
   ·exact h1
theorem N0 {b:Nat}{xs ys:List ac}(h:(xs.length+ys.length)*b≤1099511627776)(h2:xs.length+ys.length≤1099511627776):iC b xs ys=some (xs++ys):=by
 unfold iC
 rw[if_pos]
 simp only[mX]
 omega
theorem OS (l:List ac)(n:ac)(m:Nat)(hm:m≤l.length)(hl:l.length≤1048576)(h1:∀(j:Nat) x,j<m→l[j]?=some x→Lt x n)(h2:∀x,l[m]?=some x→¬Lt x n):∀(k j:Nat),j+k=m→uK l n (j:Int)=some (.inr (n,(m:Int),l))
 | 0,j,hj=>by
  obtain rfl:j=m:=by omega
  rw[Hm,lZ,ce]
  by_cases h:j<l.length
  ·rw[decide_eq_true h,cond_true,ch,List.getElem?_eq_getElem h,Option.bind_some,eG,show Op.bytesLess l[j] n=false from by simpa[Lt] using h2 _ (List.getElem?_eq_getElem h),cond_false]
  ·rw[decide_eq_false h,cond_false,eG,cond_false]
 | k+1,j,hj=>by
  have h:j<l.length:=by omega
  rw[Hm,lZ,ce,decide_eq_true h,cond_true,ch,List.getElem?_eq_getElem h,Option.bind_some,eG,show Op.bytesLess l[j] n=true from h1 j _ (by omega) (List.getElem?_eq_getElem h),cond_true,dm (by omega)]
  exact OS l n m hm hl h1 h2 k (j+1) (by omega)
theorem put_val (l:List ac)(n:ac)(hl:l.length≤1000000)(hs:l.Pairwise Lt):∃r,xT l n=some r∧r.Pairwise Lt∧(∀x,x∈r↔x∈l∨x=n)∧r.length≤l.length+1:=by
 have key:∃m,m≤l.length∧(∀(j:Nat) x,j<m→l[j]?=some x→Lt x n)∧(∀x,l[m]?=some x→¬Lt x n):=by
  clear hl
  induction l with
  | nil=>exact⟨0,by simp,fun j x hj=>by omega,fun x hx=>by simp at hx⟩
  | cons y l ih=>
   by_cases hy:Lt y n
   ·obtain⟨m,h1,h2,h3⟩:=ih (List.pairwise_cons.1 hs).2
    refine⟨m+1,by simp;omega,fun j x hj hx=>?_,fun x hx=>h3 x (by simpa using hx)⟩
    cases j with
    | zero=>simp at hx;subst hx;exact hy
    | succ j=>exact h2 j x (by omega) (by simpa using hx)
   ·exact⟨0,by simp,fun j x hj=>by omega,fun x hx=>by simp at hx;subst hx;exact hy⟩
 obtain⟨m,hm,h1,h2⟩:=key
 have hlow:∀x∈l.take m,Lt x n:=by
  intro x hx
  obtain⟨i,hi,rfl⟩:=List.mem_iff_getElem.1 hx
  rw[List.length_take] at hi
  rw[List.getElem_take]
  exact h1 i _ (by omega) (List.getElem?_eq_getElem (by omega))
 have hloop:=OS l n m hm (by omega) h1 h2 m 0 (by omega)
 rw[show ((0:Nat):Int)=0 from rfl] at hloop
 unfold xT
 rw[hloop]
 simp only[cb,ce]
 have s1:jS l.length 0 (m:Int)=some ():=by unfold jS;rw[if_pos (by omega)]
 have s2:jS l.length (m:Int) (len l)=some ():=by unfold jS;rw[if_pos (by simp only[len];omega)]
 have p1:jV l (0+Int.toNat 0) (Int.toNat (m:Int) - Int.toNat 0)=some (l.take m):=by
  unfold jV
  simp only[Int.toNat_zero,Int.toNat_natCast,Nat.zero_add,Nat.sub_zero,List.drop_zero]
  rw[if_pos hm]
 have p2:jV l (0+Int.toNat (m:Int)) (Int.toNat (len l) - Int.toNat (m:Int))=some (l.drop m):=by
  unfold jV
  simp only[Int.toNat_natCast,Nat.zero_add,len]
  rw[if_pos (by omega),List.take_of_length_le (by rw[List.length_drop];omega)]
 have a1:iC 16 ([]:List ac) (l.take m)=some (l.take m):=by rw[N0 (by simp only[List.length_nil,List.length_take];omega) (by simp only[List.length_nil,List.length_take];omega)];rfl
 have a2:iC 16 (l.take m) [n]=some (l.take m++[n]):=v6 (by rw[List.length_take];omega) (by rw[List.length_take];omega)
 have a3:iC 16 (l.take m++[n]) (l.drop m)=some (l.take m++[n]++l.drop m):=N0 (by simp only[List.length_append,List.length_take,List.length_drop,List.length_singleton];omega) (by simp only[List.length_append,List.length_take,List.length_drop,List.length_singleton];omega)
 have hins:(∀x∈l.drop m,Lt n x)→(l.take m++[n]++l.drop m).Pairwise Lt∧(∀x,x∈l.take m++[n]++l.drop m↔x∈l∨x=n)∧(l.take m++[n]++l.drop m).length≤l.length+1:=by
  intro hhi
  have hs2:=hs
  rw[←List.take_append_drop m l,List.pairwise_append] at hs2
  refine⟨List.pairwise_append.2 ⟨List.pairwise_append.2 ⟨hs2.1,List.pairwise_singleton _ _,fun x hx y hy=>?_⟩,hs2.2.1,fun x hx y hy=>?_⟩,fun x=>?_,?_⟩
  ·rw[List.mem_singleton] at hy;subst hy;exact hlow x hx
  ·rcases List.mem_append.1 hx with hx | hx
   ·exact hs2.2.2 x hx y hy
   ·rw[List.mem_singleton] at hx;subst hx;exact hhi y hy
  ·have:x∈l↔x∈l.take m∨x∈l.drop m:=by
    rw[←List.mem_append,List.take_append_drop]
   rw[List.mem_append,List.mem_append,List.mem_singleton,this]
   constructor
   ·rintro ((h | h) | h)
    ·exact .inl (.inl h)
    ·exact .inr h
    ·exact .inl (.inr h)
   ·rintro ((h | h) | h)
    ·exact .inl (.inl h)
    ·exact .inr h
    ·exact .inl (.inr h)
  ·simp only[List.length_append,List.length_take,List.length_drop,List.length_singleton];omega
 by_cases hb:m<l.length
 ·have hx:=List.getElem?_eq_getElem hb
  have hge:=h2 _ hx
  have hrest:∀x∈l.drop (m+1),Lt l[m] x:=by
   intro x hx
   obtain⟨i,hi,rfl⟩:=List.mem_iff_getElem.1 hx
   rw[List.length_drop] at hi
   rw[List.getElem_drop]
   exact List.pairwise_iff_getElem.1 hs m (m+1+i) hb (by omega) (by omega)
  rw[decide_eq_true hb,cond_true,ch,hx,Option.bind_some,cb,zR]
  by_cases he:l[m]=n
  ·rw[decide_eq_true he,cond_true]
   refine⟨l,rfl,hs,fun x=>⟨.inl,?_⟩,by omega⟩
   rintro (h | h)
   ·exact h
   ·rw[h,←he];exact List.getElem_mem hb
  ·rw[decide_eq_false he,cond_false]
   simp only[s1,p1,a1,a2,s2,p2,a3,Option.bind_some]
   refine⟨_,rfl,hins ?_⟩
   intro x hx
   rw[List.drop_eq_getElem_cons hb] at hx
   rcases List.mem_cons.1 hx with rfl | hx
   ·exact (tri n l[m]).resolve_right fun h=>h.elim (fun e=>he e.symm) hge
   ·have h1:Lt n l[m]:=(tri n l[m]).resolve_right fun h=>h.elim (fun e=>he e.symm) hge
    exact h1.trans (hrest x hx)
 ·rw[decide_eq_false hb,cond_false,cb,cond_false]
  simp only[s1,p1,a1,a2,s2,p2,a3,Option.bind_some]
  refine⟨_,rfl,hins ?_⟩
  intro x hx
  rw[List.drop_of_length_le (by omega)] at hx
  cases hx
end StrL
theorem zT {x y:ac}:decide (x≤y)=true↔StrL.Le x y:=by
 unfold StrL.Le StrL.Lt
 rw[Go.Proofs.bytesLess_eq,decide_eq_true_iff,decide_eq_true_iff]
 exact Iff.rfl
theorem abg (l:List ac):(l.mergeSort fun x y=>decide (x≤y)).Pairwise StrL.Le:=by
 have h:=List.pairwise_mergeSort (le:=fun x y:ac=>decide (x≤y)) (fun x y z h1 h2=>by
  rw[zT] at *;exact h1.trans h2) (fun x y=>by
  rw[Bool.or_eq_true,zT,zT]
  rcases StrL.tri x y with h | h | h
  ·exact .inl h.le
  ·subst h;exact .inl fun h=>h.irrefl
  ·exact .inr h.le) l
 exact h.imp fun {x y} h=>zT.1 h
theorem Ym (l r:List ac)(hl:l.length≤1048576)(hr:r.Pairwise StrL.Lt)(hm:∀x,x∈r↔x∈l):B2 l=some r:=by
 unfold B2 vx
 have hl2:(l.mergeSort fun (x y:ac)=>decide (x≤y)).length=l.length:=List.length_mergeSort _
 rw[Nat.ble_eq_true_of_le hl,cond_true,Option.bind_some,hl2,Nat.beq_refl,cond_true,StrL.compact_val _ (by rw[hl2];exact hl),Option.bind_some]
 obtain⟨h1,h2⟩:=StrL.dd_ok (abg l)
 congr 1
 refine StrL.asc_uniq h1 hr fun x=>?_
 rw[h2,hm]
 exact (List.mergeSort_perm l _).mem_iff
theorem DS (b x:Bool):(bif b then x else false)=(b&&x):=by cases b<;>rfl
def eJ (x a b:Int):Bool:=decide (x≥a)&&decide (x≤b)
theorem mR (x a b:Int):ey x a b=some (eJ x a b):=by simp only[ey,ed,DS,eJ]
theorem lu (x a b:Int):ji x a b=some (eJ x a b):=by simp only[ji,ed,DS,eJ]
def lF (c:UInt8):Bool:=(decide (97≤c.toNat)&&decide (c.toNat≤122))||(decide (48≤c.toNat)&&decide (c.toNat≤57))
theorem XV (c:UInt8):xV (c.toNat:Int)=some (lF c):=by
 simp only[xV,lF,ed]
 by_cases h1:97≤c.toNat<;>by_cases h2:c.toNat≤122<;>by_cases h3:48≤c.toNat<;>by_cases h4:c.toNat≤57<;>simp[h1,h2,h3,h4,show ((97:Int)≤c.toNat)↔97≤c.toNat by omega,show ((c.toNat:Int)≤122)↔c.toNat≤122 by omega,show ((48:Int)≤c.toNat)↔48≤c.toNat by omega,show ((c.toNat:Int)≤57)↔c.toNat≤57 by omega]
def mS:List ac:=[[116,114,117,101],[102,114,111,109],[110,111,116],[97,110,100],[111,114],[98,111,116,104],[101,105,116,104,101,114],[105,116],[105,110]]
def gB (s:ac):Bool:=match s with
 | []=>false
 | c::r=>decide (r.length<8)&&decide (97≤c.toNat)&&decide (c.toNat≤122)&&s.all lF && !mS.contains s
theorem acU (b x:Bool):(bif b then b else x)=(b||x):=by cases b<;>rfl
theorem Qs:DK [116,114,117,101,32,102,114,111,109,32,110,111,116,32,97,110,100,32,111,114,32,98,111,116,104,32,101,105,116,104,101,114,32,105,116,32,105,110] [32]=some mS:=by
 have h:zr [116,114,117,101,32,102,114,111,109,32,110,111,116,32,97,110,100,32,111,114,32,98,111,116,104,32,101,105,116,104,101,114,32,105,116,32,105,110] [32] 0 (-1) 9 ([116,114,117,101,32,102,114,111,109,32,110,111,116,32,97,110,100,32,111,114,32,98,111,116,104,32,101,105,116,104,101,114,32,105,116,32,105,110],0,List.replicate 9 [])=some (.inr ([105,110],8,[[116,114,117,101],[102,114,111,109],[110,111,116],[97,110,100],[111,114],[98,111,116,104],[101,105,116,104,101,114],[105,116],[]])):=
  (jK (fun a=>(Bd _ _ _ _ _ a).1)).2 ⟨20,by decide +kernel⟩
 have e:DK [116,114,117,101,32,102,114,111,109,32,110,111,116,32,97,110,100,32,111,114,32,98,111,116,104,32,101,105,116,104,101,114,32,105,116,32,105,110] [32]=(be (zr [116,114,117,101,32,102,114,111,109,32,110,111,116,32,97,110,100,32,111,114,32,98,111,116,104,32,101,105,116,104,101,114,32,105,116,32,105,110] [32] 0 (-1) 9 ([116,114,117,101,32,102,114,111,109,32,110,111,116,32,97,110,100,32,111,114,32,98,111,116,104,32,101,105,116,104,101,114,32,105,116,32,105,110],0,List.replicate 9 [])) fun u12:ac×Int×(List ac)=>(aI u12.2.2 u12.2.1).bind fun e13=>(jS (dw u12.2.2 u12.2.1 u12.1).length 0 (ai (u12.2.1+1))).bind fun s14=>(jV (dw u12.2.2 u12.2.1 u12.1) (0+Int.toNat (0)) (Int.toNat ((ai (u12.2.1+1))) - Int.toNat (0))).bind fun p15=>some p15).bind fun r=>some r:=by rfl
 rw[e,h]
 rfl
theorem J5 (s:ac):rS mS s=some (mS.contains s):=by
 unfold rS C2
 rw[mI (L:=rG mS s) (a:=mS) (p:=fun e=>some (s==e)) (q:=fun e=>s==e) (fun _ _=>rfl) (fun x=>by rw[Gg,lR]<;>rfl) (by decide)]
 cases h:mS.findIdx? (fun e=>s==e) with
 | none=>
  have:mS.contains s=false:=by
   rw[List.findIdx?_eq_none_iff] at h
   rw[Bool.eq_false_iff]
   intro hc
   rw[List.contains_iff_exists_mem_beq] at hc
   obtain⟨w,hw,he⟩:=hc
   rw[h w hw] at he
   cases he
  rw[this]
  rfl
 | some i=>
  have:mS.contains s=true:=by
   rw[List.findIdx?_eq_some_iff_getElem] at h
   obtain⟨hi,he,_⟩:=h
   rw[List.contains_iff_exists_mem_beq]
   exact⟨_,List.getElem_mem hi,he⟩
  rw[this]
  simp
theorem SX (s:ac):(bif s==[116,114,117,101] then s==[116,114,117,101] else bif s==[102,114,111,109] then s==[102,114,111,109] else bif s==[110,111,116] then s==[110,111,116] else bif s==[97,110,100] then s==[97,110,100] else bif s==[111,114] then s==[111,114] else bif s==[98,111,116,104] then s==[98,111,116,104] else bif s==[101,105,116,104,101,114] then s==[101,105,116,104,101,114] else bif s==[105,116] then s==[105,116] else s==[105,110])=mS.contains s:=by
 simp only[acU,mS,List.contains_cons,List.contains_nil,Bool.or_false]
theorem qH (s:ac)(hs:s.length≤1048576):sb s=some (gB s):=by
 unfold sb ey gB
 simp only[ed,Option.bind_some,SX]
 cases s with
 | nil=>rfl
 | cons c r=>
  have e1:decide (len (c::r)≥1)=true:=decide_eq_true (by simp[len];omega)
  have e2:decide (len (c::r)≤8)=decide (r.length<8):=by simp only[len,List.length_cons];congr 1;apply propext;omega
  have e3:aI (c::r) (0:Int)=some c:=rfl
  have e4:decide ((c.toNat:Int)<97)=!decide (97≤c.toNat):=by rw[←decide_not];congr 1;apply propext;omega
  have e5:decide ((c.toNat:Int)>122)=!decide (c.toNat≤122):=by rw[←decide_not];congr 1;apply propext;omega
  rw[e1,e2,e3,zz (r:=false) (L:=uH (c::r)) (a:=c::r) (p:=fun c=>(xV (c.toNat:Int)).bind fun r=>some (!r)) (q:=fun c=>!lF c) (fun x _=>by rw[XV];rfl) (fun x=>by rw[RT,oa];simp only[Option.bind_assoc,Option.bind_some]) (by omega)]
  simp only[cond_true,Option.bind_some,e4,e5]
  have e6:((c::r).any fun c=>!lF c)=!((c::r).all lF):=by rw[List.not_all_eq_any_not]
  rw[e6]
  cases decide (r.length<8)<;>cases decide (97≤c.toNat)<;>cases decide (c.toNat≤122)<;>cases (c::r).all lF<;>cases mS.contains (c::r)<;>rfl
theorem qy (s:ac)(hs:s.length≤1048576):wK s=some (gB s):=by
 unfold wK ji gB
 simp only[ed,Option.bind_some,Qs,J5]
 cases s with
 | nil=>rfl
 | cons c r=>
  have e1:decide (len (c::r)≥1)=true:=decide_eq_true (by simp[len];omega)
  have e2:decide (len (c::r)≤8)=decide (r.length<8):=by simp only[len,List.length_cons];congr 1;apply propext;omega
  have e3:aI (c::r) (0:Int)=some c:=rfl
  have e4:decide ((c.toNat:Int)<97)=!decide (97≤c.toNat):=by rw[←decide_not];congr 1;apply propext;omega
  have e5:decide ((c.toNat:Int)>122)=!decide (c.toNat≤122):=by rw[←decide_not];congr 1;apply propext;omega
  have hp:∀c:UInt8,(bif decide ((c.toNat:Int)<97) then (bif decide ((c.toNat:Int)<48) then true else decide ((c.toNat:Int)>57)) else (bif decide ((c.toNat:Int)>122) then (bif decide ((c.toNat:Int)<48) then true else decide ((c.toNat:Int)>57)) else false))=!lF c:=by
   intro c
   have f1:decide ((c.toNat:Int)<97)=!decide (97≤c.toNat):=by rw[←decide_not];congr 1;apply propext;omega
   have f2:decide ((c.toNat:Int)>122)=!decide (c.toNat≤122):=by rw[←decide_not];congr 1;apply propext;omega
   have f3:decide ((c.toNat:Int)<48)=!decide (48≤c.toNat):=by rw[←decide_not];congr 1;apply propext;omega
   have f4:decide ((c.toNat:Int)>57)=!decide (c.toNat≤57):=by rw[←decide_not];congr 1;apply propext;omega
   rw[f1,f2,f3,f4]
   unfold lF
   by_cases g1:97≤c.toNat
   ·have g3:48≤c.toNat:=by omega
    have g4:¬c.toNat≤57:=by omega
    simp only[g1,g3,g4,decide_true,decide_false]
    cases decide (c.toNat≤122)<;>rfl
   ·simp only[g1,decide_false]
    cases decide (48≤c.toNat)<;>cases decide (c.toNat≤57)<;>rfl
  rw[e1,e2,e3,zz (r:=false) (L:=xL (c::r)) (a:=c::r) (p:=fun c=>some (!lF c)) (q:=fun c=>!lF c) (fun x _=>rfl) (fun x=>by rw[V0,pz];simp only[ed,hp,Option.bind_some]) (by omega)]
  simp only[cond_true,Option.bind_some,e4,e5]
  have e6:((c::r).any fun c=>!lF c)=!((c::r).all lF):=by rw[List.not_all_eq_any_not]
  rw[e6]
  cases decide (r.length<8)<;>cases decide (97≤c.toNat)<;>cases decide (c.toNat≤122)<;>cases (c::r).all lF<;>cases mS.contains (c::r)<;>rfl
theorem iZ {ρ υ σ : Type}{L : Nat → σ → Option (ρ ⊕ υ)}(N : Nat)(J : Nat → σ → Prop)(T : ρ ⊕ υ → Prop)(hs : ∀ i s,i < N→J i s→(∃ s',J (i + 1) s' ∧ L i s=L (i + 1) s') ∨ ∃ y,T y ∧ L i s=some y)(he : ∀ s,J N s→∃ y,T y ∧ L N s=some y){s : σ}(h0 : J 0 s) : ∃ y,T y ∧ L 0 s=some y:=by
  have key : ∀ k i s,i + k=N→J i s→∃ y,T y ∧ L i s=some y:=by
    intro k
    induction k with
    | zero => intro i s hi hj; obtain rfl : i = N := by omega
              exact he s hj
    | succ k ih =>
      intro i s hi hj
      rcases hs i s (by omega) hj with ⟨s',h1,h2⟩ | h
      · rw [h2]; exact ih (i + 1) s' (by omega) h1
      · exact h
  exact key N 0 s (by omega) h0
theorem J1 {α:Type}{L:Int→Option (Bool⊕Unit)}{a:List α}{f:α→Option Bool}{p:α→Bool}(hf:∀x∈a,f x=some (p x))(hL:∀x,L x=bif decide (x<len a) then (aI a x).bind fun e=>(f e).bind fun r=>bif !r then some (.inl false) else L (ai (x+1)) else some (.inr ()))(hb:a.length<9223372036854775807):L 0=some (if a.all p then .inr () else .inl false):=by
 obtain⟨y,h1,h2⟩:=iZ (L:=fun i (_:Unit)=>L (i:Int)) a.length (fun i _=>(a.take i).all p=true) (fun y=>y=if a.all p then .inr () else .inl false) (s:=())
  (by
   intro i _ hi hj
   have hx:=List.getElem?_eq_getElem hi
   rw[show L (i:Int)=_ from hL _,ce,decide_eq_true hi,cond_true,ch,hx,Option.bind_some,hf _ (List.getElem_mem hi),Option.bind_some,dm (by omega)]
   cases hp:p a[i] with
   | true=>
    refine .inl ⟨(),?_,rfl⟩
    rw[List.take_add_one,hx,List.all_append,hj]
    simp[hp]
   | false=>
    refine .inr ⟨_,?_,rfl⟩
    rw[if_neg]
    intro h
    rw[List.all_eq_true] at h
    rw[h _ (List.getElem_mem hi)] at hp
    cases hp)
  (by
   intro _ hj
   refine⟨_,rfl,?_⟩
   rw[List.take_length] at hj
   rw[show L (a.length:Int)=_ from hL _,ce,decide_eq_false (by omega),cond_false,if_pos hj]) (by simp)
 rw[show L 0=some y from h2,h1]
theorem vZ {ρ υ α:Type}{q:α→Bool}{y0 y1:ρ⊕υ}:∀{a:List α} {L:Nat→Option (ρ⊕υ)},(∀(i:Nat) x,a[i]?=some x→L i=bif q x then some y0 else L (i+1))→L a.length=some y1→L 0=some (if a.any q then y0 else y1)
 | [],L,_,he=>by simpa using he
 | x::a,L,hL,he=>by
  rw[hL 0 x rfl,vZ (a:=a) (L:=fun i=>L (i+1)) (y0:=y0) (y1:=y1) (fun i z hz=>hL (i+1) z (by simpa using hz)) (by simpa using he),List.any_cons]
  cases q x<;>rfl
def ta (c:Condition):Bool:=
 if c.Op=1 then decide (c.Parts.length=0)&&(decide (c.Name=[])&&decide (c.Day=0))
 else if c.Op=2 then decide (c.Parts.length=0)&&(gB c.Name&&decide (c.Day=0))
 else if c.Op=3 then decide (c.Parts.length=0)&&(decide (c.Name=[])&&eJ c.Day 0 36524)
 else if c.Op=4 then decide (c.Parts.length=1)&&(decide (c.Name=[])&&decide (c.Day=0))
 else if c.Op=5∨c.Op=6 then decide (c.Parts.length=2)&&(decide (c.Name=[])&&decide (c.Day=0))
 else false
mutual
def f6:Condition→Bool
 | ⟨a0,a1,a2,a3⟩=>ta ⟨a0,a1,a2,a3⟩&&zF a3
def zF:List Condition→Bool
 | []=>true
 | x::xs=>f6 x&&zF xs
end
theorem Bm:∀a,zF a=a.all f6
 | []=>rfl
 | x::xs=>by simp[zF,Bm xs]
theorem yH (c:Condition):f6 c=(ta c&&c.Parts.all f6):=by cases c;simp only[f6,Bm]
theorem zH {α:Type}{a:List α}{n:Nat}:(len a==(n:Int))=decide (a.length=n):=by
 rw[vf]
 by_cases h:a.length=n
 ·rw[decide_eq_true h,decide_eq_true];simp only[len];omega
 ·rw[decide_eq_false h,decide_eq_false];simp only[len];omega
theorem XU (c:Condition)(hn:c.Name.length≤1048576):Dp c=some (ta c):=by
 have l0:(len c.Parts==0)=decide (c.Parts.length=0):=zH (n:=0)
 have l1:(len c.Parts==1)=decide (c.Parts.length=1):=zH (n:=1)
 have l2:(len c.Parts==2)=decide (c.Parts.length=2):=zH (n:=2)
 unfold Dp ta
 simp only[ed,qH _ hn,Option.bind_some,rY,mR,l0,l1,l2,zR,vf,DS]
 by_cases o1:c.Op=1
 ·simp only[o1,decide_true,cond_true,if_true]
 by_cases o2:c.Op=2
 ·rw[decide_eq_false o1,decide_eq_true o2,cond_false,cond_true,if_neg o1,if_pos o2]
  cases decide (c.Parts.length=0)<;>rfl
 by_cases o3:c.Op=3
 ·rw[decide_eq_false o1,decide_eq_false o2,decide_eq_true o3,cond_false,cond_false,cond_true,if_neg o1,if_neg o2,if_pos o3]
  cases decide (c.Parts.length=0)<;>cases decide (c.Name=[])<;>rfl
 by_cases o4:c.Op=4
 ·rw[decide_eq_false o1,decide_eq_false o2,decide_eq_false o3,decide_eq_true o4,if_neg o1,if_neg o2,if_neg o3,if_pos o4]
  rfl
 rw[decide_eq_false o1,decide_eq_false o2,decide_eq_false o3,decide_eq_false o4,if_neg o1,if_neg o2,if_neg o3,if_neg o4]
 by_cases o5:c.Op=5
 ·simp only[o5,decide_true,cond_true,cond_false,true_or,if_true]
 ·by_cases o6:c.Op=6
  ·rw[if_pos (.inr o6),decide_eq_false o5,decide_eq_true o6];rfl
  ·rw[if_neg (by omega),decide_eq_false o5,decide_eq_false o6];rfl
theorem SU (c:Condition):ct c→JE c=some (f6 c):=by
 refine gK (P:=fun c=>ct c→JE c=some (f6 c)) ?_ c
 intro c ih hc
 rw[ie] at hc
 rw[ach]
 unfold uF
 rw[XU c hc.2.1,Option.bind_some,yH]
 cases ta c with
 | false=>rfl
 | true=>
  have hl:c.Parts.length≤1048576:=hc.2.2.2.1.1
  simp only[Bool.not_true,cond_false,Bool.true_and]
  rw[J1 (L:=rL (aN sa) c) (a:=c.Parts) (f:=fun e=>JE e) (p:=f6) (fun x hx=>ih x hx (hc.2.2.2.1.2 x hx)) (fun x=>by rw[RR,lX]<;>rfl) (by omega)]
  cases c.Parts.all f6<;>rfl
theorem zJ (a:List Condition)(i:Nat)(h:i<a.length):bh (a.take (i+1))=bh (a.take i)+bU a[i]:=by
 have app:∀(x y:List Condition),bh (x++y)=bh x+bh y:=by
  intro x y
  induction x with
  | nil=>simp[bh]
  | cons z x ih=>simp only[List.cons_append,bh,ih];omega
 rw[List.take_add_one,List.getElem?_eq_getElem h,app]
 simp[bh]
theorem rm (a:List Condition)(i:Nat):bh (a.take i)≤bh a:=by
 have app:∀(x y:List Condition),bh (x++y)=bh x+bh y:=by
  intro x y
  induction x with
  | nil=>simp[bh]
  | cons z x ih=>simp only[List.cons_append,bh,ih];omega
 have:=app (a.take i) (a.drop i)
 rw[List.take_append_drop] at this
 omega
theorem XW (c:Condition):bU c≤2000000→Nv c=some ((bU c:Nat):Int):=by
 refine gK (P:=fun c=>bU c≤2000000→Nv c=some ((bU c:Nat):Int)) ?_ c
 intro c ih hc
 have hc':=gC c
 have hcs:=jb c.Parts
 rw[acj]
 unfold uM
 obtain⟨y,h1,h2⟩:=iZ (L:=fun i (s:Int)=>mB (aN l4) c (s,(i:Int))) c.Parts.length (fun i s=>s=((1+bh (c.Parts.take i):Nat):Int)) (fun y=>y=.inr ((bU c:Nat):Int)) (s:=1)
  (by
   intro i s hi hj
   have hx:=List.getElem?_eq_getElem hi
   have h3:=zJ c.Parts i hi
   have h4:=rm c.Parts (i+1)
   refine .inl ⟨((1+bh (c.Parts.take (i+1)):Nat):Int),rfl,?_⟩
   show mB (aN l4) c (s,(i:Int))=_
   rw[Hp,kz]
   simp only[ce,decide_eq_true hi,cond_true,ch,hx,Option.bind_some]
   rw[show aN l4 c.Parts[i]=some ((bU c.Parts[i]:Nat):Int) from ih _ (List.getElem_mem hi) (by omega),Option.bind_some,dm (by omega),hj,fu (by omega) (by omega)]
   congr 2
   omega)
  (by
   intro s hj
   refine⟨_,rfl,?_⟩
   rw[List.take_length] at hj
   show mB (aN l4) c (s,(c.Parts.length:Int))=_
   rw[Hp,kz]
   simp only[ce,decide_eq_false (Nat.lt_irrefl _),cond_false]
   rw[hj,hc']) (by simp[bh])
 rw[show mB (aN l4) c (1,0)=some y from h2,h1]
 rfl
def qX (c:Condition):Bool:=f6 c&&decide (bU c≤15)
theorem ahs {c:Condition}(h:ct c):bU c≤1048577:=by
 rw[ie] at h
 rw[gC]
 omega
theorem XS (c:Condition)(h:ct c):Ds c=some (qX c):=by
 unfold Ds qX
 rw[SU c h,Option.bind_some]
 cases f6 c with
 | false=>rfl
 | true=>
  have:=ahs h
  simp only[cond_true,Bool.true_and]
  rw[XW c (by omega),Option.bind_some,cb]
  congr 1
  by_cases h:bU c≤15
  ·rw[decide_eq_true h,decide_eq_true (by omega)]
  ·rw[decide_eq_false h,decide_eq_false (by omega)]
def S2 (op:Int):Nat:=if op=4 then 1 else if op=5∨op=6 then 2 else 0
def Kg (c:Condition):Bool:=eJ c.Op 1 6&&decide (c.Parts.length=S2 c.Op)
def IY (c:Condition):Bool:=((c.Op==2) == !(c.Name==([]:ac)))&&((if c.Op=2 then gB c.Name else true)&&((if c.Op=3 then true else decide (c.Day=0))&&eJ c.Day 0 36524))
theorem lw {x a b:Int}:eJ x a b=true↔a≤x∧x≤b:=by simp[eJ]
theorem Xn (c:Condition):((ji c.Op 1 6).bind fun r20=>cf (ρ:=Int) (bif (!r20) then (some (.inr true)) else ((aI [(-1),0,0,0,1,2,2] c.Op).bind fun e22=>some (.inr ((len c.Parts) != e22)))) fun u21:Bool=>(some (.inr u21):Option (Int⊕Bool)))=some (.inr (!Kg c)):=by
 rw[lu,Option.bind_some]
 unfold Kg
 cases h:eJ c.Op 1 6 with
 | false=>rfl
 | true=>
  rw[lw] at h
  have ho:c.Op=1∨c.Op=2∨c.Op=3∨c.Op=4∨c.Op=5∨c.Op=6:=by omega
  have key:aI [(-1),0,0,0,1,2,2] c.Op=some ((S2 c.Op:Nat):Int):=by rcases ho with h | h | h | h | h | h<;>rw[h]<;>rfl
  simp only[Bool.not_true,cond_false,key,Option.bind_some,eG,Bool.true_and,bne,zH]
theorem Xo (c:Condition)(hn:c.Name.length≤1048576):(bif (!((c.Op==2)==(!(c.Name==([]:ac))))) then (some (.inr true)) else (cf (ρ:=Int) (bif (c.Op==2) then ((wK c.Name).bind fun r10=>cf (ρ:=Int) (bif (!r10) then (some (.inr true)) else (cf (ρ:=Int) (bif (c.Op != 3) then (cf (ρ:=Int) (bif (c.Day != 0) then (some (.inr true)) else ((lz c.Day).bind fun r14=>some (.inr (!r14)))) fun u13:Bool=>some (.inr u13)) else ((lz c.Day).bind fun r15=>some (.inr (!r15)))) fun u12:Bool=>some (.inr u12))) fun u11:Bool=>some (.inr u11)) else (cf (ρ:=Int) (bif (c.Op != 3) then (cf (ρ:=Int) (bif (c.Day != 0) then (some (.inr true)) else ((lz c.Day).bind fun r18=>some (.inr (!r18)))) fun u17:Bool=>some (.inr u17)) else ((lz c.Day).bind fun r19=>some (.inr (!r19)))) fun u16:Bool=>some (.inr u16))) fun u9:Bool=>(some (.inr u9):Option (Int⊕Bool))))=some (.inr (!IY c)):=by
 unfold IY
 simp only[qy _ hn,lz,lu,Option.bind_some,ada]
 cases ((c.Op==2) == !(c.Name==([]:ac))) with
 | false=>rfl
 | true=>
  simp only[Bool.not_true,cond_false,Bool.true_and]
  by_cases o2:c.Op=2
  ·simp only[o2,if_true,show ((2:Int)==2)=true from rfl,cond_true,show ¬(2:Int)=3 by omega,if_false,decide_false,Bool.not_false]
   cases gB c.Name<;>by_cases hd:c.Day=0<;>simp[hd]
  ·have:(c.Op==2)=false:=beq_eq_false_iff_ne.2 o2
   rw[this,cond_false,if_neg o2]
   by_cases o3:c.Op=3
   ·simp[o3]
   ·by_cases hd:c.Day=0<;>simp[o3,hd]
theorem Iz (c:Condition):ta c=(Kg c&&IY c):=by
 have name0:c.Name=[]→gB c.Name=false:=fun h=>by rw[h];rfl
 have d0:c.Day=0→eJ c.Day 0 36524=true:=fun h=>by rw[h];rfl
 have in1:eJ c.Op 1 6=decide (1≤c.Op∧c.Op≤6):=by rw[Bool.eq_iff_iff,lw,decide_eq_true_iff]
 unfold ta Kg IY
 rw[in1,show S2 c.Op=if c.Op=4 then 1 else if c.Op=5∨c.Op=6 then 2 else 0 from rfl]
 by_cases hn:c.Name=[]
 ·by_cases hd:c.Day=0
  ·by_cases o1:c.Op=1
   ·simp[o1,hn,hd,eJ]
   by_cases o2:c.Op=2
   ·simp[o2,hn,hd,gB]
   by_cases o3:c.Op=3
   ·simp[o3,hn,hd,eJ]
   by_cases o4:c.Op=4
   ·simp[o4,hn,hd,eJ]
   by_cases o5:c.Op=5
   ·simp[o5,hn,hd,eJ]
   by_cases o6:c.Op=6
   ·simp[o6,hn,hd,eJ]
   have:¬(1≤c.Op∧c.Op≤6):=by omega
   simp[o1,o2,o3,o4,o5,o6,decide_eq_false this]
  ·by_cases o3:c.Op=3
   ·simp[o3,hn]
   ·by_cases o2:c.Op=2<;>simp[o2,o3,hd]
 ·have hb:(c.Name==([]:ac))=false:=beq_eq_false_iff_ne.2 hn
  by_cases o2:c.Op=2
  ·by_cases hd:c.Day=0<;>simp[o2,hn,hd,eJ,hb]
  ·simp[o2,hn,hb]
theorem SC (c:Condition):ct c→∀so:Nat,so≤15→WO c (so:Int)=some (if f6 c=true∧so+bU c≤15 then ((so+bU c:Nat):Int) else -1):=by
 refine gK (P:=fun c=>ct c→∀so:Nat,so≤15→WO c (so:Int)=some (if f6 c=true∧so+bU c≤15 then ((so+bU c:Nat):Int) else -1)) ?_ c
 intro c ih hc so hso
 rw[ie] at hc
 have hnc:=gC c
 rw[af0]
 unfold zw
 rw[Xn,Xo c hc.2.1,dm (by omega),yH,Iz]
 by_cases h15:so+1≤15
 ·rw[decide_eq_false (by omega),cond_false]
  cases Kg c with
  | false=>rfl
  | true=>
  cases IY c with
  | false=>rfl
  | true=>
   simp only[Bool.not_true,cb,cond_false,Bool.true_and]
   obtain⟨y,h1,h2⟩:=iZ (L:=fun i (s:Int)=>mV (aN nf) c (so:Int) (s,(i:Int))) c.Parts.length
    (fun i s=>s=((so+1+bh (c.Parts.take i):Nat):Int)∧so+1+bh (c.Parts.take i)≤15∧(c.Parts.take i).all f6=true)
    (fun y=>y=if c.Parts.all f6=true∧so+bU c≤15 then .inr ((so+bU c:Nat):Int) else .inl (-1)) (s:=((so+1:Nat):Int))
    (by
     rintro i s hi ⟨hj,hj2,hj3⟩
     have hx:=List.getElem?_eq_getElem hi
     have h3:=zJ c.Parts i hi
     have h4:=rm c.Parts (i+1)
     have h5:=ih _ (List.getElem_mem hi) (hc.2.2.2.1.2 _ (List.getElem_mem hi)) (so+1+bh (c.Parts.take i)) hj2
     show (∃s',_∧mV (aN nf) c (so:Int) (s,(i:Int))=_)∨∃y,_∧mV (aN nf) c (so:Int) (s,(i:Int))=_
     rw[KI,mb]
     simp only[ce,decide_eq_true hi,cond_true,ch,hx,Option.bind_some,hj]
     rw[show aN nf (c.Parts[i],((so+1+bh (c.Parts.take i):Nat):Int))=_ from h5,Option.bind_some,dm (by have:=hc.2.2.2.1.1;omega)]
     by_cases hq:f6 c.Parts[i]=true∧so+1+bh (c.Parts.take i)+bU c.Parts[i]≤15
     ·rw[if_pos hq,decide_eq_false (by omega),cond_false]
      refine .inl ⟨_,⟨?_,?_,?_⟩,rfl⟩
      ·congr 1;omega
      ·omega
      ·rw[List.take_add_one,hx,List.all_append,hj3];simp[hq.1]
     ·rw[if_neg hq,decide_eq_true (by omega),cond_true]
      refine .inr ⟨_,?_,rfl⟩
      rw[if_neg]
      rintro⟨h6,h7⟩
      rw[List.all_eq_true] at h6
      exact hq ⟨h6 _ (List.getElem_mem hi),by omega⟩)
    (by
     rintro s ⟨hj,hj2,hj3⟩
     rw[List.take_length] at *
     show ∃y,_∧mV (aN nf) c (so:Int) (s,(c.Parts.length:Int))=_
     rw[KI,mb]
     simp only[ce,decide_eq_false (Nat.lt_irrefl _),cond_false]
     refine⟨_,?_,rfl⟩
     rw[if_pos ⟨hj3,by omega⟩,hj]
     congr 2;omega) ⟨by simp[bh],by simp[bh];omega,by simp⟩
   rw[show mV (aN nf) c (so:Int) (((so+1:Nat):Int),0)=some y from h2,h1]
   by_cases hq:c.Parts.all f6=true∧so+bU c≤15
   ·rw[if_pos hq,if_pos hq];rfl
   ·rw[if_neg hq,if_neg hq];rfl
 ·rw[decide_eq_true (by omega),cond_true,cb,cond_true,if_neg (by omega)]
theorem Xl (c:Condition)(h:ct c):MO c=some (qX c):=by
 unfold MO qX
 rw[show (0:Int)=((0:Nat):Int) from rfl,SC c h 0 (by omega),Option.bind_some]
 have:=gC c
 congr 1
 cases f6 c with
 | false=>rfl
 | true=>
  by_cases h:bU c≤15
  ·rw[if_pos ⟨rfl,by omega⟩,decide_eq_true (by omega),decide_eq_true h];rfl
  ·rw[if_neg (by omega),decide_eq_false h];rfl
mutual
def lb:Condition→List ac
 | ⟨op,name,_,parts⟩=>(if op=2 then [name] else [])++fy parts
def fy:List Condition→List ac
 | []=>[]
 | x::xs=>lb x++fy xs
end
theorem K5 (c:Condition):lb c=(if c.Op=2 then [c.Name] else [])++fy c.Parts:=by cases c;simp only[lb]
theorem Bs:∀(a b:List Condition),fy (a++b)=fy a++fy b
 | [],b=>rfl
 | x::a,b=>by simp only[List.cons_append,fy,Bs a b,List.append_assoc]
theorem yP (a:List Condition)(i:Nat)(h:i<a.length):fy (a.take (i+1))=fy (a.take i)++lb a[i]:=by
 rw[List.take_add_one,List.getElem?_eq_getElem h,Bs]
 simp[fy]
mutual
theorem IM:∀c,(lb c).length≤bU c
 | ⟨op,name,day,parts⟩=>by
  have:=tG parts
  simp only[lb,bU,List.length_append]
  split<;>simp<;>omega
theorem tG:∀a,(fy a).length≤bh a
 | []=>by simp[fy]
 | x::a=>by
  have h1:=IM x
  have h2:=tG a
  simp only[fy,bh,List.length_append]
  omega
end
theorem SE (c:Condition):∀l:List ac,l.length+bU c≤1000000→WL c l=some (l++lb c):=by
 refine gK (P:=fun c=>∀l:List ac,l.length+bU c≤1000000→WL c l=some (l++lb c)) ?_ c
 intro c ih l hl
 have hnc:=gC c
 have hpl:=jb c.Parts
 rw[afZ]
 unfold zt
 have h0:(bif (c.Op==2) then ((iC 16 l [c.Name]).bind fun a8=>some (.inr a8)) else (some (.inr l)):Option (List ac⊕List ac))=some (.inr (l++if c.Op=2 then [c.Name] else [])):=by
  rw[vf]
  by_cases h:c.Op=2
  ·rw[decide_eq_true h,cond_true,v6 (by omega) (by omega),if_pos h];rfl
  ·rw[decide_eq_false h,cond_false,if_neg h,List.append_nil]
 rw[h0,cb]
 have hlen:(l++if c.Op=2 then [c.Name] else []).length≤l.length+1:=by
  rw[List.length_append];split<;>simp
 rw[K5,←List.append_assoc]
 generalize (l++if c.Op=2 then [c.Name] else [])=l1 at hlen ⊢
 obtain⟨y,h1,h2⟩:=iZ (L:=fun i (s:List ac)=>oO (aN oM) c l ((i:Int),s)) c.Parts.length (fun i s=>s=l1++fy (c.Parts.take i)) (fun y=>y=.inr (l1++fy c.Parts)) (s:=l1)
  (by
   intro i s hi hj
   have hx:=List.getElem?_eq_getElem hi
   have h3:=zJ c.Parts i hi
   have h4:=rm c.Parts (i+1)
   have h5:=tG (c.Parts.take i)
   refine .inl ⟨l1++fy (c.Parts.take (i+1)),rfl,?_⟩
   show oO (aN oM) c l ((i:Int),s)=_
   rw[KF,ma]
   simp only[ce,decide_eq_true hi,cond_true,ch,hx,Option.bind_some]
   rw[show aN oM (c.Parts[i],s)=_ from ih _ (List.getElem_mem hi) s (by rw[hj,List.length_append];omega),Option.bind_some,dm (by omega),hj,yP _ _ hi,List.append_assoc])
  (by
   intro s hj
   refine⟨_,rfl,?_⟩
   rw[List.take_length] at hj
   show oO (aN oM) c l ((c.Parts.length:Int),s)=_
   rw[KF,ma]
   simp only[ce,decide_eq_false (Nat.lt_irrefl _),cond_false]
   rw[hj]) (by simp[fy])
 rw[show oO (aN oM) c l (0,l1)=some y from h2,h1]
 rfl
theorem Su {c:Condition}(h:ta c=true)(ho:c.Op=2∨c.Op=3):c.Parts=[]:=by
 rw[Iz,Kg,S2] at h
 rw[Bool.and_eq_true,Bool.and_eq_true,decide_eq_true_iff] at h
 have:=h.1.2
 rw[if_neg (by omega),if_neg (by omega)] at this
 exact List.length_eq_zero_iff.1 this
theorem SV (c:Condition):f6 c=true→∀l:List ac,l.length+bU c≤1000000→l.Pairwise StrL.Lt→∃r,Ns l c=some r∧r.Pairwise StrL.Lt∧(∀x,x∈r↔x∈l∨x∈lb c)∧r.length≤l.length+bU c:=by
 refine gK (P:=fun c=>f6 c=true→∀l:List ac,l.length+bU c≤1000000→l.Pairwise StrL.Lt→∃r,Ns l c=some r∧r.Pairwise StrL.Lt∧(∀x,x∈r↔x∈l∨x∈lb c)∧r.length≤l.length+bU c) ?_ c
 intro c ih hf l hl hs
 have hnc:=gC c
 have hpl:=jb c.Parts
 rw[yH,Bool.and_eq_true,List.all_eq_true] at hf
 rw[aci]
 unfold uI
 rw[vf,K5]
 by_cases ho:c.Op=2
 ·obtain⟨r,e,r1,r2,r3⟩:=StrL.put_val l c.Name (by omega) hs
  rw[decide_eq_true ho,cond_true,e,if_pos ho,Su hf.1 (.inl ho)]
  exact⟨r,rfl,r1,fun x=>by rw[r2];simp[fy],by omega⟩
 rw[decide_eq_false ho,cond_false,if_neg ho,List.nil_append]
 obtain⟨y,h1,h2⟩:=iZ (L:=fun i (s:List ac)=>mA (aN lY) l c ((i:Int),s)) c.Parts.length
  (fun i s=>s.Pairwise StrL.Lt∧(∀x,x∈s↔x∈l∨x∈fy (c.Parts.take i))∧s.length≤l.length+bh (c.Parts.take i))
  (fun y=>∃r,y=.inr r∧r.Pairwise StrL.Lt∧(∀x,x∈r↔x∈l∨x∈fy c.Parts)∧r.length≤l.length+bU c) (s:=l)
  (by
   rintro i s hi ⟨j1,j2,j3⟩
   have hx:=List.getElem?_eq_getElem hi
   have h3:=zJ c.Parts i hi
   have h4:=rm c.Parts (i+1)
   obtain⟨r,e,r1,r2,r3⟩:=ih _ (List.getElem_mem hi) (hf.2 _ (List.getElem_mem hi)) s (by omega) j1
   refine .inl ⟨r,⟨r1,fun x=>?_,by omega⟩,?_⟩
   ·rw[r2,j2,yP _ _ hi,List.mem_append,or_assoc]
   show mA (aN lY) l c ((i:Int),s)=_
   rw[Hj,ky]
   simp only[ce,decide_eq_true hi,cond_true,ch,hx,Option.bind_some]
   rw[show aN lY (s,c.Parts[i])=_ from e,Option.bind_some,dm (by omega)])
  (by
   rintro s ⟨j1,j2,j3⟩
   rw[List.take_length] at *
   refine⟨.inr s,⟨s,rfl,j1,j2,by omega⟩,?_⟩
   show mA (aN lY) l c ((c.Parts.length:Int),s)=_
   rw[Hj,ky]
   simp only[ce,decide_eq_false (Nat.lt_irrefl _),cond_false]) ⟨hs,fun x=>by simp[fy],by simp[bh]⟩
 obtain⟨r,rfl,hr⟩:=h1
 rw[show mA (aN lY) l c (0,l)=some (.inr r) from h2]
 exact⟨r,rfl,hr⟩
theorem yB (l:List ac)(s:ac)(hl:l.length≤1048576):rS l s=some (l.contains s):=by
 unfold rS C2
 rw[mI (L:=rG l s) (a:=l) (p:=fun e=>some (s==e)) (q:=fun e=>s==e) (fun _ _=>rfl) (fun x=>by rw[Gg,lR]<;>rfl) (by omega)]
 cases h:l.findIdx? (fun e=>s==e) with
 | none=>
  have:l.contains s=false:=by
   rw[List.findIdx?_eq_none_iff] at h
   rw[Bool.eq_false_iff]
   intro hc
   rw[List.contains_iff_exists_mem_beq] at hc
   obtain⟨w,hw,he⟩:=hc
   rw[h w hw] at he
   cases he
  rw[this]
  rfl
 | some i=>
  have:l.contains s=true:=by
   rw[List.findIdx?_eq_some_iff_getElem] at h
   obtain⟨hi,he,_⟩:=h
   rw[List.contains_iff_exists_mem_beq]
   exact⟨_,List.getElem_mem hi,he⟩
  rw[this]
  simp
theorem aam (a b:ac):(a==b)=(b==a):=by
 rw[zR,zR]
 by_cases h:a=b
 ·simp[h]
 ·simp[h,Ne.symm h]
theorem Q6 (l:List ac)(s:ac)(hl:l.length≤1048576):vP l s=some (l.contains s):=by
 unfold vP
 rw[zz (L:=uG l s) (a:=l) (p:=fun e=>some (e==s)) (q:=fun e=>e==s) (r:=true) (fun _ _=>rfl) (fun x=>by rw[RS,nX]<;>rfl) (by omega)]
 have:(l.any fun e=>e==s)=l.contains s:=by
  rw[List.contains_eq_any_beq]
  congr 1
  funext e
  exact aam e s
 rw[this]
 cases l.contains s<;>rfl
def aaj (l:List ac)(k:Nat):Bool:=match l[k]? with
 | some e=>!gB e||(l.take k).contains e
 | none=>false
def yU (l:List ac):Nat→Nat→Bool
 | 0,_=>true
 | n+1,k=>!aaj l k&&yU l n (k+1)
theorem Ed {α:Type}{l:List α}{k:Nat}(h:k≤l.length):jk l 0 (k:Int)=some (l.take k):=by
 unfold jk
 rw[if_pos (by omega)]
 simp
theorem BB (l:List ac)(cs:List Clause)(hl:jh oD l):∀(n k:Nat),k+n=l.length→uS ⟨l,cs⟩ (k:Int)=some (bif yU l n k then .inr () else .inl false)
 | 0,k,hk=>by
  have h1:=hl.1
  rw[HG,l7]
  simp only[ce]
  rw[decide_eq_false (by omega)]
  rfl
 | n+1,k,hk=>by
  have h1:=hl.1
  obtain⟨e,he⟩:∃e,l[k]?=some e:=⟨_,List.getElem?_eq_getElem (by omega)⟩
  rw[HG,l7]
  simp only[ce]
  rw[decide_eq_true (by omega)]
  simp only[cond_true,ch,he,Option.bind_some,qH e (hl.2 e (List.mem_of_getElem? he)),Ed (show k≤l.length by omega),Q6 _ e (show (l.take k).length≤1048576 by rw[List.length_take];omega)]
  rw[dm (by omega),BB l cs hl n (k+1) (by omega)]
  simp only[yU,aaj,he]
  cases gB e<;>cases (l.take k).contains e<;>rfl
theorem Bp (l:List ac)(hl:jh oD l):∀(n k:Nat),k+n=l.length→yh l (k:Int)=some (bif yU l n k then .inr () else .inl false)
 | 0,k,hk=>by
  have h1:=hl.1
  rw[KH,nr]
  simp only[ce]
  rw[decide_eq_false (by omega)]
  rfl
 | n+1,k,hk=>by
  have h1:=hl.1
  obtain⟨e,he⟩:∃e,l[k]?=some e:=⟨_,List.getElem?_eq_getElem (by omega)⟩
  rw[KH,nr]
  simp only[ce]
  rw[decide_eq_true (by omega)]
  simp only[cond_true,ch,he,Option.bind_some,qy e (hl.2 e (List.mem_of_getElem? he)),Ed (show k≤l.length by omega),yB _ e (show (l.take k).length≤1048576 by rw[List.length_take];omega)]
  rw[dm (by omega),Bp l hl n (k+1) (by omega)]
  simp only[yU,aaj,he]
  cases gB e<;>cases (l.take k).contains e<;>rfl
def rq (l:List ac):Bool:=yU l l.length 0&&eJ (len l) 2 4
theorem aa3 (l:List ac)(cs:List Clause)(hl:jh oD l):ye ⟨l,cs⟩=some (rq l):=by
 unfold ye rq
 have:=BB l cs hl l.length 0 (by omega)
 rw[show (0:Int)=((0:Nat):Int) by rfl,this]
 simp only[mR]
 cases yU l l.length 0<;>rfl
theorem aaF (l:List ac)(hl:jh oD l):NL l=some (rq l):=by
 unfold NL rq
 have:=Bp l hl l.length 0 (by omega)
 rw[show (0:Int)=((0:Nat):Int) by rfl,this]
 simp only[lu]
 cases yU l l.length 0<;>rfl
def kI (cs:List Clause)(id:ac):Int:=match cs.findIdx? (fun e=>e.Id==id) with
 | some i=>(i:Int)
 | none=>-1
theorem Lo (c:Contract)(id:ac)(hl:c.Clauses.length≤1048576):vS c id=some (kI c.Clauses id):=by
 unfold vS kI
 rw[mI (L:=uQ c id) (a:=c.Clauses) (p:=fun e=>some (e.Id==id)) (q:=fun e=>e.Id==id) (fun _ _=>rfl) (fun x=>by rw[RV,od]<;>rfl) (by omega)]
 cases c.Clauses.findIdx? (fun e=>e.Id==id)<;>rfl
theorem KY (c:Contract)(id:ac)(hl:c.Clauses.length≤1048576):H6 c id=some (kI c.Clauses id):=by
 unfold H6 Jv kI
 rw[mI (L:=uj c.Clauses id) (a:=c.Clauses) (p:=fun e=>some (e.Id==id)) (q:=fun e=>e.Id==id) (fun _ _=>rfl) (fun x=>by rw[RI,nP]<;>rfl) (by omega)]
 cases c.Clauses.findIdx? (fun e=>e.Id==id)<;>rfl
theorem QZ (cs:List Clause)(id:ac):kI cs id=-1∨∃j:Nat,kI cs id=(j:Int)∧j<cs.length:=by
 unfold kI
 cases h:cs.findIdx? (fun e=>e.Id==id) with
 | none=>exact .inl rfl
 | some j=>
  rw[List.findIdx?_eq_some_iff_getElem] at h
  exact .inr ⟨j,rfl,h.1⟩
def OX (cs:List Clause)(i:Int)(e:Clause):Bool:=match kI cs e.Repair with
 | .ofNat k=>match cs[k]? with
  | some e'=>((k:Int) != i)&&((e'.Kind==1)&&(e.Kind != 3))
  | none=>false
 | .negSucc _=>false
def kg (c:Contract)(i:Int)(e:Clause):Bool:=
 gB e.Id&&(gB e.Action&&(eJ e.Kind 1 4&&(eJ e.Party 0 (ai (len c.Parties - 1))&&(eJ e.Other 0 (ai (len c.Parties - 1))&&(!(e.Party==e.Other)&&(qX e.When&&(eJ e.Amount 0 1000000&&(eJ e.Within 0 400&&(!(bif e.Kind != 1 then (bif e.Amount != 0 then true else e.Within != 0) else false) &&
  (bif e.Repair==[] then true else OX c.Clauses i e))))))))))
theorem aa4 (c:Contract)(i:Int)(e:Clause)(hl:c.Clauses.length≤1048576):((vS c e.Repair).bind fun r8=>be (ρ:=Bool) (bif (decide (r8≥0)) then (cf (ρ:=Bool) (bif (r8 != i) then ((aI c.Clauses r8).bind fun e11=>co (bif (e11.Kind==1) then ((e.Kind != 3)) else (false)) fun u12:Bool=>some (.inr u12)) else (some (.inr false))) fun u10:Bool=>some (.inr u10)) else (some (.inr false))) fun u9:Bool=>some u9)=some (OX c.Clauses i e):=by
 rw[Lo c _ hl,Option.bind_some]
 unfold OX
 rcases QZ c.Clauses e.Repair with h | ⟨j,h,hj⟩
 ·rw[h];rfl
 ·rw[h,decide_eq_true (by omega),cond_true,ch,List.getElem?_eq_getElem hj,Option.bind_some]
  show _=some (match c.Clauses[j]? with | some e'=>_ | none=>false)
  rw[List.getElem?_eq_getElem hj]
  show _=some (((j:Int) != i)&&((c.Clauses[j].Kind==1)&&(e.Kind != 3)))
  cases ((j:Int) != i)<;>cases (c.Clauses[j].Kind==1)<;>rfl
theorem aaG (c:Contract)(i:Int)(e:Clause)(hl:c.Clauses.length≤1048576):((H6 c e.Repair).bind fun r10=>be (ρ:=Bool) (bif (e.Kind != 3) then (cf (ρ:=Bool) (bif (decide (r10≥0)) then (cf (ρ:=Bool) (bif (r10 != i) then ((aI c.Clauses r10).bind fun e14=>some (.inr (e14.Kind==1))) else (some (.inr false))) fun u13:Bool=>some (.inr u13)) else (some (.inr false))) fun u12:Bool=>some (.inr u12)) else (some (.inr false))) fun u11:Bool=>some u11)=some (OX c.Clauses i e):=by
 rw[KY c _ hl,Option.bind_some]
 unfold OX
 rcases QZ c.Clauses e.Repair with h | ⟨j,h,hj⟩
 ·rw[h];cases (e.Kind != 3)<;>rfl
 ·rw[h,decide_eq_true (by omega),cond_true,ch,List.getElem?_eq_getElem hj,Option.bind_some]
  show _=some (match c.Clauses[j]? with | some e'=>_ | none=>false)
  rw[List.getElem?_eq_getElem hj]
  show _=some (((j:Int) != i)&&((c.Clauses[j].Kind==1)&&(e.Kind != 3)))
  cases ((j:Int) != i)<;>cases (c.Clauses[j].Kind==1)<;>cases (e.Kind != 3)<;>rfl
theorem Qr (c:Contract)(i:Int)(e:Clause)(he:aI c.Clauses i=some e)(hs:ix e)(hl:c.Clauses.length≤1048576):Dx c i=some (kg c i e):=by
 unfold Dx kg
 rw[he,Option.bind_some,aa4 c i e hl]
 simp only[qH _ hs.1,qH _ hs.2.2.2.1,mR,XS _ hs.2.2.2.2.2.2.1,Option.bind_some,ed]
 cases gB e.Id with | false=>rfl | true=>?_
 cases gB e.Action with | false=>rfl | true=>?_
 cases eJ e.Kind 1 4 with | false=>rfl | true=>?_
 cases eJ e.Party 0 (ai (len c.Parties - 1)) with | false=>rfl | true=>?_
 cases eJ e.Other 0 (ai (len c.Parties - 1)) with | false=>rfl | true=>?_
 cases (e.Party==e.Other) with | true=>rfl | false=>?_
 cases qX e.When with | false=>rfl | true=>?_
 cases eJ e.Amount 0 1000000 with | false=>rfl | true=>?_
 cases eJ e.Within 0 400 with | false=>rfl | true=>?_
 cases (bif e.Kind != 1 then (bif e.Amount != 0 then true else e.Within != 0) else false) with | true=>rfl | false=>?_
 cases (e.Repair==([]:ac))<;>rfl
theorem Qh (c:Contract)(i:Int)(e:Clause)(he:aI c.Clauses i=some e)(hs:ix e)(hl:c.Clauses.length≤1048576):NQ c i=some ((kI c.Clauses e.Id==i)&&kg c i e):=by
 unfold NQ kg
 rw[he,Option.bind_some,aaG c i e hl]
 simp only[qy _ hs.1,qy _ hs.2.2.2.1,lu,Xl _ hs.2.2.2.2.2.2.1,Option.bind_some,ed,KY c _ hl,bne]
 cases gB e.Id with | false=>cases (kI c.Clauses e.Id==i)<;>rfl | true=>?_
 cases (kI c.Clauses e.Id==i) with | false=>rfl | true=>?_
 cases gB e.Action with | false=>rfl | true=>?_
 cases eJ e.Kind 1 4 with | false=>rfl | true=>?_
 cases eJ e.Party 0 (ai (len c.Parties - 1)) with | false=>rfl | true=>?_
 cases eJ e.Other 0 (ai (len c.Parties - 1)) with | false=>rfl | true=>?_
 cases (e.Party==e.Other) with | true=>rfl | false=>?_
 cases qX e.When with | false=>rfl | true=>?_
 cases eJ e.Amount 0 1000000 with | false=>rfl | true=>?_
 cases eJ e.Within 0 400 with | false=>rfl | true=>?_
 cases (bif !(e.Kind==1) then (bif !(e.Amount==0) then true else !(e.Within==0)) else false) with | true=>rfl | false=>?_
 cases (e.Repair==([]:ac))<;>rfl
def tK (c:Contract)(i:Nat):Bool:=match c.Clauses[i]? with
 | some e=>(kI c.Clauses e.Id==(i:Int))&&kg c (i:Int) e
 | none=>true
def jI (c:Contract):Bool:=!((List.range c.Clauses.length).any fun i=>!tK c i)
theorem sr {c:Contract}:jI c=true↔∀(i:Nat) e,c.Clauses[i]?=some e→kI c.Clauses e.Id=(i:Int)∧kg c (i:Int) e=true:=by
 unfold jI
 rw[Bool.not_eq_true',←Bool.not_eq_true,List.any_eq_true]
 constructor
 ·intro h i e he
  have hi:=(List.getElem?_eq_some_iff.1 he).1
  cases h1:tK c i with
  | false=>exact absurd ⟨i,List.mem_range.2 hi,by rw[h1];rfl⟩ h
  | true=>
   simp only[tK,he,Bool.and_eq_true,beq_iff_eq] at h1
   exact h1
 ·rintro h ⟨i,hi,h2⟩
  rw[List.mem_range] at hi
  have h1:=h i _ (List.getElem?_eq_getElem hi)
  simp only[tK,List.getElem?_eq_getElem hi,h1.1,h1.2,beq_self_eq_true,Bool.and_self,Bool.not_true] at h2
  cases h2
theorem O3 (c:Contract)(hc:fA c):mC c 0=some (bif jI c then .inr () else .inl false):=by
 have hl:c.Clauses.length≤1048576:=hc.2.1
 have h:=vZ (a:=List.range c.Clauses.length) (q:=fun i=>!tK c i) (y0:=(Sum.inl false:Bool⊕Unit)) (y1:=.inr ()) (L:=fun i=>mC c (i:Int))
  (fun i x hx=>by
   obtain⟨hi,hx'⟩:=List.getElem?_eq_some_iff.1 hx
   rw[List.getElem_range] at hx'
   subst hx'
   rw[List.length_range] at hi
   have he:=List.getElem?_eq_getElem hi
   have hg:aI c.Clauses (i:Int)=some c.Clauses[i]:=by rw[ch,he]
   show mC c (i:Int)=_
   rw[Hz,l5,ce,decide_eq_true hi,cond_true,hg,Option.bind_some,Lo c _ hl,Option.bind_some,Qr c _ _ hg (hc.2.2 _ (List.getElem_mem hi)) hl,dm (by omega)]
   simp only[tK,he,bne]
   cases (kI c.Clauses c.Clauses[i].Id==(i:Int))<;>cases kg c (i:Int) c.Clauses[i]<;>rfl)
  (by
   rw[List.length_range]
   show mC c (c.Clauses.length:Int)=_
   rw[Hz,l5,ce,decide_eq_false (Nat.lt_irrefl _),cond_false])
 rw[show mC c 0=_ from h]
 unfold jI
 cases (List.range c.Clauses.length).any fun i=>!tK c i<;>rfl
theorem Ou (c:Contract)(hc:fA c):oH c 0=some (bif jI c then .inr () else .inl false):=by
 have hl:c.Clauses.length≤1048576:=hc.2.1
 have h:=vZ (a:=List.range c.Clauses.length) (q:=fun i=>!tK c i) (y0:=(Sum.inl false:Bool⊕Unit)) (y1:=.inr ()) (L:=fun i=>oH c (i:Int))
  (fun i x hx=>by
   obtain⟨hi,hx'⟩:=List.getElem?_eq_some_iff.1 hx
   rw[List.getElem_range] at hx'
   subst hx'
   rw[List.length_range] at hi
   have he:=List.getElem?_eq_getElem hi
   have hg:aI c.Clauses (i:Int)=some c.Clauses[i]:=by rw[ch,he]
   show oH c (i:Int)=_
   rw[Kv,nq,ce,decide_eq_true hi,cond_true,Qh c _ _ hg (hc.2.2 _ (List.getElem_mem hi)) hl,Option.bind_some,dm (by omega)]
   simp only[tK,he])
  (by
   rw[List.length_range]
   show oH c (c.Clauses.length:Int)=_
   rw[Kv,nq,ce,decide_eq_false (Nat.lt_irrefl _),cond_false])
 rw[show oH c 0=_ from h]
 unfold jI
 cases (List.range c.Clauses.length).any fun i=>!tK c i<;>rfl
def kn (cs:List Clause):List ac:=cs.flatMap fun e=>e.Action::lb e.When
theorem N4 {c:Contract}{i:Int}{e:Clause}(h:kg c i e=true):qX e.When=true:=by
 simp only[kg,Bool.and_eq_true] at h
 exact h.2.2.2.2.2.2.1
theorem tH (cs:List Clause)(i:Nat)(h:i<cs.length):kn (cs.take (i+1))=kn (cs.take i)++(cs[i].Action::lb cs[i].When):=by
 unfold kn
 rw[List.take_add_one,List.getElem?_eq_getElem h,List.flatMap_append]
 simp
theorem D2 (c:Contract)(hc:fA c)(h12:c.Clauses.length≤12)(hv:jI c=true):∃r,pB c=some r∧yi c=some r∧r.Pairwise StrL.Lt∧(∀x,x∈r↔x∈kn c.Clauses)∧r.length≤1000:=by
 have hcond:∀i (hi:i<c.Clauses.length),f6 c.Clauses[i].When=true∧bU c.Clauses[i].When≤15:=fun i hi=>by
  have h1:=N4 (sr.1 hv i _ (List.getElem?_eq_getElem hi)).2
  unfold qX at h1
  rw[Bool.and_eq_true,decide_eq_true_iff] at h1
  exact h1
 have hs:∃r,pB c=some r∧r.Pairwise StrL.Lt∧(∀x,x∈r↔x∈kn c.Clauses)∧r.length≤16*c.Clauses.length:=by
  obtain⟨y,⟨r,rfl,hr⟩,h2⟩:=iZ (L:=fun i (s:List ac)=>oe c ((i:Int),s)) c.Clauses.length
   (fun i s=>s.Pairwise StrL.Lt∧(∀x,x∈s↔x∈kn (c.Clauses.take i))∧s.length≤16*i)
   (fun y=>∃r,y=.inr r∧r.Pairwise StrL.Lt∧(∀x,x∈r↔x∈kn c.Clauses)∧r.length≤16*c.Clauses.length) (s:=[])
   (by
    rintro i s hi ⟨j1,j2,j3⟩
    have he:=List.getElem?_eq_getElem hi
    obtain⟨f1,f2⟩:=hcond i hi
    obtain⟨r1,e1,p1,m1,l1⟩:=StrL.put_val s c.Clauses[i].Action (by omega) j1
    obtain⟨r2,e2,p2,m2,l2⟩:=SV _ f1 r1 (by omega) p1
    refine .inl ⟨r2,⟨p2,fun x=>?_,by omega⟩,?_⟩
    ·rw[m2,m1,j2,tH _ _ hi,List.mem_append,List.mem_cons,or_assoc]
    ·show oe c ((i:Int),s)=_
     rw[HC,l6]
     simp only[ce,decide_eq_true hi,cond_true,ch,he,Option.bind_some,e1,e2]
     rw[dm (by omega)])
   (by
    rintro s ⟨j1,j2,j3⟩
    rw[List.take_length] at j2
    refine⟨.inr s,⟨s,rfl,j1,j2,j3⟩,?_⟩
    show oe c ((c.Clauses.length:Int),s)=_
    rw[HC,l6]
    simp only[ce,decide_eq_false (Nat.lt_irrefl _),cond_false]) ⟨List.Pairwise.nil,fun x=>by simp[kn],by simp⟩
  refine⟨r,?_,hr⟩
  unfold pB
  rw[show oe c (0,[])=some (.inr r) from h2]
  rfl
 obtain⟨r,e,p,m,l⟩:=hs
 refine⟨r,e,?_,p,m,by omega⟩
 obtain⟨y,h1,h2⟩:=iZ (L:=fun i (s:List ac)=>qu c ((i:Int),s)) c.Clauses.length
  (fun i s=>s=kn (c.Clauses.take i)∧s.length≤16*i) (fun y=>y=.inr (kn c.Clauses)∧(kn c.Clauses).length≤16*c.Clauses.length) (s:=[])
  (by
   rintro i s hi ⟨j1,j2⟩
   have he:=List.getElem?_eq_getElem hi
   obtain⟨f1,f2⟩:=hcond i hi
   have hlen:=IM c.Clauses[i].When
   refine .inl ⟨kn (c.Clauses.take (i+1)),⟨rfl,?_⟩,?_⟩
   ·rw[tH _ _ hi,←j1,List.length_append,List.length_cons];omega
   ·show qu c ((i:Int),s)=_
    rw[KL,ny]
    simp only[ce,decide_eq_true hi,cond_true,ch,he,Option.bind_some]
    rw[v6 (by omega) (by omega),Option.bind_some,SE _ _ (by rw[List.length_append,List.length_singleton];omega),Option.bind_some,dm (by omega),tH _ _ hi,←j1,List.append_assoc]
    try rfl)
  (by
   rintro s ⟨j1,j2⟩
   rw[List.take_length] at j1
   refine⟨_,⟨rfl,by rw[←j1];exact j2⟩,?_⟩
   show qu c ((c.Clauses.length:Int),s)=_
   rw[KL,ny]
   simp only[ce,decide_eq_false (Nat.lt_irrefl _),cond_false]
   rw[j1]) ⟨by simp[kn],by simp⟩
 unfold yi
 rw[show qu c (0,[])=some y from h2,h1.1,cb,Ym _ r (by omega) p m]
 rfl
noncomputable def kX (c:Contract):Bool:=(eJ (len c.Clauses) 1 12&&rq c.Parties)&&(jI c&&(match pB c with | some r=>decide (len r≤16) | none=>false))
theorem wS (c:Contract)(hc:fA c):DB c=some (kX c):=by
 unfold DB kX
 have hp:=aa3 c.Parties c.Clauses hc.1
 rw[mR,show ye c=_ from hp,O3 c hc,Option.bind_some]
 cases h1:eJ (len c.Clauses) 1 12 with | false=>rfl | true=>?_
 cases rq c.Parties with | false=>rfl | true=>?_
 cases h2:jI c with | false=>rfl | true=>?_
 rw[lw] at h1
 obtain⟨r,e,_⟩:=D2 c hc (by simp only[len] at h1;omega) h2
 rw[e]
 rfl
theorem wN (c:Contract)(hc:fA c):M2 c=some (kX c):=by
 unfold M2 kX
 rw[aaF c.Parties hc.1,Ou c hc,Option.bind_some,lu]
 cases h1:eJ (len c.Clauses) 1 12 with | false=>cases rq c.Parties<;>rfl | true=>?_
 cases rq c.Parties with | false=>rfl | true=>?_
 cases h2:jI c with | false=>rfl | true=>?_
 rw[lw] at h1
 obtain⟨r,e,e2,_⟩:=D2 c hc (by simp only[len] at h1;omega) h2
 rw[e,e2]
 rfl
theorem yC {c:Contract}(h:kX c=true):1≤c.Clauses.length∧c.Clauses.length≤12∧rq c.Parties=true∧∀(i:Nat) e,c.Clauses[i]?=some e→kI c.Clauses e.Id=(i:Int)∧kg c (i:Int) e=true:=by
 simp only[kX,Bool.and_eq_true,lw] at h
 obtain⟨⟨⟨h1,h2⟩,h3⟩,h4,_⟩:=h
 simp only[len] at h1 h2
 exact⟨by omega,by omega,h3,sr.1 h4⟩
theorem Xp {α:Type}(l:List α)(i:Int)(hl:l.length≤1048576):eJ i 0 (ai (len l - 1))=(aI l i).isSome:=by
 unfold len
 rw[fu (by omega) (by omega)]
 unfold eJ aI
 by_cases h0:0≤i
 ·rw[if_pos h0,decide_eq_true h0,Bool.true_and]
  by_cases h1:i≤(l.length:Int) - 1
  ·rw[decide_eq_true h1,List.getElem?_eq_getElem (by omega)];rfl
  ·rw[decide_eq_false h1,List.getElem?_eq_none (by omega)];rfl
 ·rw[if_neg h0,decide_eq_false h0];rfl
theorem yy {α:Type}{L:Int→Option (Int⊕Unit)}{a:List α}{q:α→Bool}(h:L 0=some (match a.findIdx? q with | some i=>.inl (i:Int) | none=>.inr ())):((be (ρ:=Int) (L 0) fun _:Unit=>some (-1)).bind fun r=>some (decide (r≥0)))=some (a.any q):=by
 rw[h]
 cases h1:a.findIdx? q with
 | none=>
  have:a.any q=false:=by
   rw[List.findIdx?_eq_none_iff] at h1
   rw[List.any_eq_false]
   intro x hx
   rw[h1 x hx]
   exact Bool.false_ne_true
  rw[this]
  rfl
 | some i=>
  have:a.any q=true:=by
   rw[List.findIdx?_eq_some_iff_getElem] at h1
   obtain⟨hi,he,_⟩:=h1
   rw[List.any_eq_true]
   exact⟨_,List.getElem_mem hi,he⟩
  rw[this]
  simp
def vk (l:List ac)(k:Nat):Bool:=match l[k]? with
 | some e=>gB e&&(match k with
  | 0=>true
  | j+1=>match l[j]? with
   | some p=>Op.bytesLess p e
   | none=>true)
 | none=>true
def oX (l:List ac):Bool:=decide (l.length≤16) && !((List.range l.length).any fun k=>!vk l k)
theorem agj (a b:ac):(Op.bytesLess b a||b==a)=!Op.bytesLess a b:=by
 rcases StrL.tri a b with h | h | h
 ·have h2:Op.bytesLess b a=false:=Bool.eq_false_iff.2 fun h3=>StrL.Lt.asymm h h3
  have h3:(b==a)=false:=beq_eq_false_iff_ne.2 fun e=>StrL.Lt.ne h e.symm
  rw[h2,h3,show Op.bytesLess a b=true from h];rfl
 ·subst h
  rw[StrL.lt_irrefl,beq_self_eq_true];rfl
 ·have h2:Op.bytesLess a b=false:=Bool.eq_false_iff.2 fun h3=>StrL.Lt.asymm h h3
  rw[h2,show Op.bytesLess b a=true from h];rfl
theorem wU (l:List ac)(hl:jh oD l)(k:Nat)(hk:k<l.length)(hk16:k≤16):jl l (k:Int)=bif !vk l k then some (.inl false) else jl l ((k+1:Nat):Int):=by
 have he:=List.getElem?_eq_getElem hk
 have hlen:l.length≤1048576:=hl.1
 rw[vO,kx,ce,decide_eq_true hk,cond_true,decide_eq_true (by omega),ed,cond_true,ch,he,Option.bind_some,qH _ (hl.2 _ (List.getElem_mem hk)),Option.bind_some,dm (by omega)]
 cases k with
 | zero=>
  simp only[vk,he]
  cases gB l[0]<;>rfl
 | succ j=>
  have hj:j<l.length:=by omega
  rw[decide_eq_true (by omega),cond_true,show ai (((j+1:Nat):Int) - 1)=(j:Int) by rw[fu (by omega) (by omega)];omega,ch,List.getElem?_eq_getElem hj,Option.bind_some]
  simp only[vk,he,List.getElem?_eq_getElem hj,Option.bind_some]
  cases gB l[j+1]<;>cases Op.bytesLess l[j] l[j+1]<;>rfl
theorem Lr (l:List ac)(hl:jh oD l)(k:Nat)(hk:k<l.length):mu l (k:Int)=bif !vk l k then some (.inl false) else mu l ((k+1:Nat):Int):=by
 have he:=List.getElem?_eq_getElem hk
 have hlen:l.length≤1048576:=hl.1
 rw[Et,lI,ce,decide_eq_true hk,cond_true,ch,he,Option.bind_some,qy _ (hl.2 _ (List.getElem_mem hk)),Option.bind_some,dm (by omega)]
 cases k with
 | zero=>
  simp only[vk,he]
  cases gB l[0]<;>rfl
 | succ j=>
  have hj:j<l.length:=by omega
  rw[decide_eq_true (by omega),cond_true,show ai (((j+1:Nat):Int) - 1)=(j:Int) by rw[fu (by omega) (by omega)];omega,ch,List.getElem?_eq_getElem hj,Option.bind_some,agj]
  simp only[vk,he,List.getElem?_eq_getElem hj]
  cases gB l[j+1]<;>cases Op.bytesLess l[j] l[j+1]<;>rfl
theorem qE {L:Nat→Option (Bool⊕Unit)}{n:Nat}{q:Nat→Bool}(hs:∀k,k<n→L k=bif q k then some (.inl false) else L (k+1))(he:L n=some (.inr ())):L 0=some (if (List.range n).any q then .inl false else .inr ()):=by
 refine vZ (a:=List.range n) (q:=q) (y0:=(Sum.inl false:Bool⊕Unit)) (y1:=.inr ()) (L:=L) (fun i x hx=>?_) (by rw[List.length_range];exact he)
 obtain⟨hi,hx'⟩:=List.getElem?_eq_some_iff.1 hx
 rw[List.getElem_range] at hx'
 subst hx'
 rw[List.length_range] at hi
 exact hs i hi
theorem SD (l:List ac)(hl:jh oD l):BN l=some (oX l):=by
 have hlen:l.length≤1048576:=hl.1
 have h:=qE (L:=fun k=>mu l (k:Int)) (n:=l.length) (q:=fun k=>!vk l k) (fun k hk=>Lr l hl k hk) (by
  show mu l (l.length:Int)=_
  rw[Et,lI,ce,decide_eq_false (Nat.lt_irrefl _),cond_false])
 unfold BN
 rw[show mu l 0=_ from h]
 unfold oX
 have h16:decide (len l≤16)=decide (l.length≤16):=by
  have:(len l≤16)↔l.length≤16:=by unfold len;omega
  simp only[this]
 cases (List.range l.length).any fun k=>!vk l k<;>simp[h16]
theorem ST (l:List ac)(hl:jh oD l):Dm l=some (oX l):=by
 have hlen:l.length≤1048576:=hl.1
 have h16:decide (len l≤16)=decide (l.length≤16):=by
  have:(len l≤16)↔l.length≤16:=by unfold len;omega
  simp only[this]
 unfold Dm
 by_cases hm:l.length≤16
 ·have h:=qE (L:=fun k=>jl l (k:Int)) (n:=l.length) (q:=fun k=>!vk l k) (fun k hk=>wU l hl k hk (by omega)) (by
   show jl l (l.length:Int)=_
   rw[vO,kx,ce,decide_eq_false (Nat.lt_irrefl _),cond_false,ed,cond_false])
  rw[show jl l 0=_ from h]
  unfold oX
  cases (List.range l.length).any fun k=>!vk l k<;>simp[h16]
 ·have h:=qE (L:=fun k=>jl l (k:Int)) (n:=17) (q:=fun k=>!vk l k) (fun k hk=>wU l hl k (by omega) (by omega)) (by
   show jl l ((17:Nat):Int)=_
   rw[vO,kx,ce]
   by_cases h17:17<l.length
   ·rw[decide_eq_true h17];rfl
   ·rw[decide_eq_false h17];rfl)
  rw[show jl l 0=_ from h]
  unfold oX
  rw[h16,decide_eq_false hm]
  cases (List.range 17).any fun k=>!vk l k<;>rfl
def yD (c:Contract)(i:ac):Bool:=c.Clauses.any fun x=>x.Repair==i
theorem aa2 (c:Contract)(i:Int)(e:Clause)(he:aI c.Clauses i=some e)(hl:c.Clauses.length≤1048576):Dz c i=some (yD c e.Id):=by
 unfold Dz
 rw[zz (L:=uO c i) (a:=c.Clauses) (p:=fun x=>some (x.Repair==e.Id)) (q:=fun x=>x.Repair==e.Id) (r:=true) (fun _ _=>rfl) (fun x=>by rw[RU,oc];simp only[he,Option.bind_some]) (by omega)]
 unfold yD
 cases c.Clauses.any fun x=>x.Repair==e.Id<;>rfl
theorem aaE (c:Contract)(i:Int)(e:Clause)(he:aI c.Clauses i=some e)(hl:c.Clauses.length≤1048576):BF c i=some (yD c e.Id):=by
 unfold BF Jp Jw
 rw[yy (mI (L:=uk c.Clauses (c,i)) (a:=c.Clauses) (p:=fun x=>BH x c i) (q:=fun x=>x.Repair==e.Id) (fun x _=>by rw[BH,he];rfl) (fun x=>by rw[RJ,nQ]) (by omega))]
 rfl
theorem aa1 (s:State)(i:Int)(hl:s.Duties.length≤1048576):DE s i=some ((s.Duties.countP (fun d=>d.Clause==i):Nat):Int):=by
 unfold DE
 obtain⟨y,rfl,h⟩:=iZ (L:=fun k (n:Int)=>mD s i (n,(k:Int))) s.Duties.length (fun k n=>n=(((s.Duties.take k).countP (fun d=>d.Clause==i):Nat):Int)) (fun y=>y=.inr ((s.Duties.countP (fun d=>d.Clause==i):Nat):Int)) (s:=0)
  (by
   rintro k n hk rfl
   have hx:=List.getElem?_eq_getElem hk
   refine .inl ⟨_,rfl,?_⟩
   show mD s i (_,(k:Int))=mD s i (_,((k+1:Nat):Int))
   rw[HK,l8]
   simp only[ce,decide_eq_true hk,cond_true,ch,hx,Option.bind_some,ed]
   rw[show ai ((k:Int)+1)=((k+1:Nat):Int) from dm (by omega)]
   have h1:(s.Duties.take (k+1)).countP (fun d=>d.Clause==i)=(s.Duties.take k).countP (fun d=>d.Clause==i)+if (s.Duties[k].Clause==i)=true then 1 else 0:=by
    rw[List.take_add_one,hx,List.countP_append,Option.toList_some,List.countP_singleton]
   have h2:=List.countP_le_length (l:=s.Duties.take k) (p:=fun d=>d.Clause==i)
   rw[List.length_take] at h2
   rw[h1]
   cases h3:s.Duties[k].Clause==i with
   | false=>simp
   | true=>rw[cond_true,fu (by omega) (by omega)];simp)
  (by
   rintro n rfl
   refine⟨_,rfl,?_⟩
   show mD s i (_,(s.Duties.length:Int))=_
   rw[HK,l8]
   simp only[ce,decide_eq_false (Nat.lt_irrefl _),cond_false,List.take_length]) (by simp)
 rw[show mD s i (0,0)=_ from h]
 rfl
def ru (D:List Duty)(k:Nat)(d:Duty):Bool:=match k with
 | 0=>false
 | j+1=>match D[j]? with
  | some p=>decide (p.Since>d.Since)
  | none=>false
def np (s:State)(d:Duty):Bool:=bif d.Status==1 then (decide (d.Due≥s.Day) && !s.Over) else bif d.Status==2 then true else bif d.Status==3 then decide (d.Due<s.Day) else bif d.Status==4 then s.Over else false
def clB (s:State)(d:Duty)(e:Clause):Bool:=(e.Kind==1)&&(eJ d.Since 0 s.Day&&((d.Due==ai (d.Since+e.Within))&&eJ d.Due 0 36524))
def wa (c:Contract)(s:State)(k:Nat)(d:Duty):Bool:=match aI c.Clauses d.Clause with
 | some e=>clB s d e&&(!ru s.Duties k d&&np s d)
 | none=>false
def wc (c:Contract)(i:Int):Bool:=match aI c.Clauses i with
 | some e=>yD c e.Id
 | none=>false
theorem aht {s:State}{d:Duty}(h:np s d=true):eJ d.Status 1 4=true:=by
 unfold np at h
 rw[lw]
 cases h1:d.Status==1 with
 | true=>have:=eq_of_beq h1;omega
 | false=>
  cases h2:d.Status==2 with
  | true=>have:=eq_of_beq h2;omega
  | false=>
   cases h3:d.Status==3 with
   | true=>have:=eq_of_beq h3;omega
   | false=>
    cases h4:d.Status==4 with
    | true=>have:=eq_of_beq h4;omega
    | false=>rw[h1,h2,h3,h4] at h;cases h
theorem agu (s:State)(d:Duty)(h:eJ d.Status 1 4=true):(bif d.Status==1 then (bif decide (d.Due<s.Day) then true else (bif s.Over then true else (bif d.Status==3 then (bif decide (d.Due≥s.Day) then true else (bif d.Status==4 then !s.Over else false)) else (bif d.Status==4 then !s.Over else false)))) else (bif d.Status==3 then (bif decide (d.Due≥s.Day) then true else (bif d.Status==4 then !s.Over else false)) else (bif d.Status==4 then !s.Over else false)))=!np s d:=by
 rw[lw] at h
 unfold np
 have hd:decide (d.Due≥s.Day)=!decide (d.Due<s.Day):=by
  by_cases h2:d.Due<s.Day
  ·rw[decide_eq_true h2,decide_eq_false (by omega)];rfl
  ·rw[decide_eq_false h2,decide_eq_true (by omega)];rfl
 rw[hd]
 generalize decide (d.Due<s.Day)=x
 have h4:d.Status=1∨d.Status=2∨d.Status=3∨d.Status=4:=by omega
 rcases h4 with h4 | h4 | h4 | h4<;>rw[h4]<;>cases x<;>cases s.Over<;>rfl
theorem XT (c:Contract)(s:State)(k:Nat)(hk:k<s.Duties.length)(hl:s.Duties.length≤1048576)(hc:c.Clauses.length≤1048576) :
  DG c s (k:Int)=some (wa c s k s.Duties[k]&&(wc c s.Duties[k].Clause||s.Duties.countP (fun d=>d.Clause==s.Duties[k].Clause)==1)):=by
 have he:=List.getElem?_eq_getElem hk
 unfold DG
 rw[ch,he,Option.bind_some]
 have hp:∀(f:Bool→Option (Bool⊕Bool)) (g:Duty→Option (Bool⊕Bool)) ,(∀p,g p=f (decide (p.Since>s.Duties[k].Since)))→(bif decide ((k:Int)>0) then ((aI s.Duties (ai ((k:Int) - 1))).bind g) else f false)=f (ru s.Duties k s.Duties[k]):=by
  intro f g hg
  cases k with
  | zero=>rfl
  | succ j=>
   have hj:j<s.Duties.length:=by omega
   rw[decide_eq_true (by omega),cond_true,show ai (((j+1:Nat):Int) - 1)=(j:Int) by rw[fu (by omega) (by omega)];omega,ch,List.getElem?_eq_getElem hj,Option.bind_some,hg]
   simp only[ru,List.getElem?_eq_getElem hj]
 generalize s.Duties[k]=d at *
 rw[mR,Option.bind_some,Xp _ _ hc]
 unfold wa
 cases hg:aI c.Clauses d.Clause with
 | none=>rfl
 | some e=>
  rw[Option.isSome_some]
  simp only[Bool.not_true,cond_false,Option.bind_some,mR,rY]
  unfold clB
  cases h1:e.Kind==1 with
  | false=>rw[bne,h1];rfl
  | true=>
   rw[bne,h1]
   cases h2:eJ d.Since 0 s.Day with
   | false=>rfl
   | true=>
    cases h3:d.Due==ai (d.Since+e.Within) with
    | false=>rw[bne,h3];rfl
    | true=>
     rw[bne,h3]
     cases h4:eJ d.Due 0 36524 with
     | false=>rfl
     | true=>
      cases h5:eJ d.Status 1 4 with
      | false=>
       have:np s d=false:=Bool.eq_false_iff.2 fun h=>by rw[aht h] at h5;cases h5
       rw[this]
       simp
      | true=>
       simp only[Bool.not_true,cond_false,eG,cb,ed,agu s d h5]
       rw[show (bif decide ((k:Int)>0) then (aI s.Duties (ai ((k:Int) - 1))).bind (fun e11=>(some (.inr (bif decide (e11.Since>d.Since) then true else !np s d)):Option (Bool⊕Bool))) else some (.inr (!np s d)))=some (.inr (bif ru s.Duties k d then true else !np s d)) from hp (fun b=>some (.inr (bif b then true else !np s d))) _ (fun p=>rfl)]
       rw[cb]
       rw[show wc c d.Clause=yD c e.Id by unfold wc;rw[hg],aa2 c _ e hg hc,aa1 s _ hl]
       have hcn:∀n:Nat,((n:Int)==1)=(n==1):=fun n=>by
        by_cases h:n=1
        ·subst h;rfl
        ·rw[beq_eq_false_iff_ne.2 h,beq_eq_false_iff_ne.2 (by omega)]
       simp only[Option.bind_some,hcn]
       generalize (List.countP (fun d_1=>d_1.Clause==d.Clause) s.Duties==1)=z
       cases ru s.Duties k d<;>cases np s d<;>cases yD c e.Id<;>cases z<;>rfl
def sY (D:List Duty)(k:Nat)(i:Int):Bool:=(D.take k).any fun o=>o.Clause==i
theorem Xm (c:Contract)(s:State)(k:Nat)(hk:k<s.Duties.length)(hl:s.Duties.length≤1048576)(hc:c.Clauses.length≤1048576) :
  BK c s (k:Int)=some (wa c s k s.Duties[k]&&(wc c s.Duties[k].Clause || !sY s.Duties k s.Duties[k].Clause)):=by
 have he:=List.getElem?_eq_getElem hk
 unfold BK
 rw[ch,he,Option.bind_some]
 have hp:∀(f:Bool→Option (Bool⊕Bool)) (g:Duty→Option (Bool⊕Bool)) ,(∀p,g p=f (decide (p.Since>s.Duties[k].Since)))→(bif decide ((k:Int)>0) then ((aI s.Duties (ai ((k:Int) - 1))).bind g) else f false)=f (ru s.Duties k s.Duties[k]):=by
  intro f g hg
  cases k with
  | zero=>rfl
  | succ j=>
   have hj:j<s.Duties.length:=by omega
   rw[decide_eq_true (by omega),cond_true,show ai (((j+1:Nat):Int) - 1)=(j:Int) by rw[fu (by omega) (by omega)];omega,ch,List.getElem?_eq_getElem hj,Option.bind_some,hg]
   simp only[ru,List.getElem?_eq_getElem hj]
 generalize s.Duties[k]=d at *
 rw[lu,Option.bind_some,Xp _ _ hc]
 unfold wa
 cases hg:aI c.Clauses d.Clause with
 | none=>rfl
 | some e=>
  rw[Option.isSome_some]
  simp only[Bool.not_true,cond_false,Option.bind_some,lu,lz]
  unfold clB
  cases h1:e.Kind==1 with
  | false=>rw[bne,h1];rfl
  | true=>
   rw[bne,h1]
   cases h2:eJ d.Since 0 s.Day with
   | false=>rfl
   | true=>
    cases h3:d.Due==ai (d.Since+e.Within) with
    | false=>rw[bne,h3];rfl
    | true=>
     rw[bne,h3]
     cases h4:eJ d.Due 0 36524 with
     | false=>rfl
     | true=>
      simp only[Bool.not_true,cond_false,eG,cb]
      rw[show (bif decide ((k:Int)>0) then (aI s.Duties (ai ((k:Int) - 1))).bind (fun e17=>(some (.inr (decide (d.Since<e17.Since))):Option (Bool⊕Bool))) else some (.inr false))=some (.inr (ru s.Duties k d)) from hp (fun b=>some (.inr b)) _ (fun p=>rfl)]
      simp only[eG,cb]
      cases ru s.Duties k d with
      | true=>rfl
      | false=>
       rw[cond_false,aaE c _ e hg hc,Option.bind_some,Ed (by omega),Option.bind_some]
       unfold Jq Jx
       rw[yy (mI (L:=ul (s.Duties.take k) d) (a:=s.Duties.take k) (p:=fun x=>Jk x d) (q:=fun o=>o.Clause==d.Clause) (fun x _=>rfl) (fun x=>by rw[RK,nR]) (by rw[List.length_take];omega))]
       rw[show wc c d.Clause=yD c e.Id by unfold wc;rw[hg]]
       unfold sY np
       cases yD c e.Id<;>cases ((s.Duties.take k).any fun o=>o.Clause==d.Clause)<;>cases (d.Status==1)<;>cases (d.Status==2)<;>cases (d.Status==3)<;>cases (d.Status==4)<;>cases s.Over<;>cases decide (d.Due≥s.Day)<;>cases decide (d.Due<s.Day)<;>rfl
def qh (c:Contract)(s:State)(k:Nat):Bool:=match s.Duties[k]? with
 | some d=>wa c s k d&&(wc c d.Clause||s.Duties.countP (fun o=>o.Clause==d.Clause)==1)
 | none=>true
def re (c:Contract)(s:State)(k:Nat):Bool:=match s.Duties[k]? with
 | some d=>wa c s k d&&(wc c d.Clause || !sY s.Duties k d.Clause)
 | none=>true
theorem KQ (D:List Duty)(k:Nat)(hk:k<D.length)(p:Duty→Bool):D.countP p=(D.take k).countP p+((if p D[k]=true then 1 else 0)+(D.drop (k+1)).countP p):=by
 conv=>lhs;rw[←List.take_append_drop k D,List.drop_eq_getElem_cons hk]
 rw[List.countP_append,List.countP_cons]
 omega
theorem W9 (c:Contract)(s:State):((List.range s.Duties.length).any fun k=>!qh c s k)=((List.range s.Duties.length).any fun k=>!re c s k):=by
 have key:(∀k,k<s.Duties.length→qh c s k=true)↔(∀k,k<s.Duties.length→re c s k=true):=by
  constructor
  ·intro h k hk
   have h1:=h k hk
   unfold qh at h1
   unfold re
   rw[List.getElem?_eq_getElem hk] at h1 ⊢
   simp only[Bool.and_eq_true,Bool.or_eq_true,beq_iff_eq] at h1 ⊢
   refine⟨h1.1,h1.2.imp id fun h2=>?_⟩
   have h3:=KQ s.Duties k hk (fun o=>o.Clause==s.Duties[k].Clause)
   rw[if_pos (by simp),h2] at h3
   have h4:(s.Duties.take k).countP (fun o=>o.Clause==s.Duties[k].Clause)=0:=by omega
   rw[List.countP_eq_zero] at h4
   rw[Bool.not_eq_true',sY,List.any_eq_false]
   exact h4
  ·intro h k hk
   have h1:=h k hk
   unfold re at h1
   unfold qh
   rw[List.getElem?_eq_getElem hk] at h1 ⊢
   simp only[Bool.and_eq_true,Bool.or_eq_true,beq_iff_eq] at h1 ⊢
   refine⟨h1.1,?_⟩
   cases hd:wc c s.Duties[k].Clause with
   | true=>exact .inl rfl
   | false=>
    refine .inr ?_
    have h2:sY s.Duties k s.Duties[k].Clause=false:=by
     rcases h1.2 with h2 | h2
     ·rw[hd] at h2;cases h2
     ·simpa using h2
    rw[KQ s.Duties k hk (fun o=>o.Clause==s.Duties[k].Clause),if_pos (by simp)]
    have e1:(s.Duties.take k).countP (fun o=>o.Clause==s.Duties[k].Clause)=0:=by
     rw[List.countP_eq_zero]
     rw[sY,List.any_eq_false] at h2
     exact h2
    have e2:(s.Duties.drop (k+1)).countP (fun o=>o.Clause==s.Duties[k].Clause)=0:=by
     rw[List.countP_eq_zero]
     intro x hx hq
     obtain⟨j,hj,rfl⟩:=List.mem_iff_getElem.1 hx
     rw[List.length_drop] at hj
     rw[List.getElem_drop] at hq
     have h5:=h (k+1+j) (by omega)
     unfold re at h5
     rw[List.getElem?_eq_getElem (by omega)] at h5
     simp only[Bool.and_eq_true,Bool.or_eq_true] at h5
     rw[beq_iff_eq] at hq
     rw[hq,hd] at h5
     have h6:sY s.Duties (k+1+j) s.Duties[k].Clause=true:=by
      rw[sY,List.any_eq_true]
      refine⟨s.Duties[k],?_,by simp⟩
      rw[List.mem_iff_getElem]
      exact⟨k,by rw[List.length_take];omega,by rw[List.getElem_take]⟩
     rw[h6] at h5
     simp at h5
    omega
 rw[Bool.eq_iff_iff,List.any_eq_true,List.any_eq_true]
 have k2:=not_congr key
 simp only[Classical.not_forall] at k2
 simp only[List.mem_range,Bool.not_eq_true']
 constructor
 ·rintro⟨k,hk,hq⟩
  obtain⟨j,hj,hq2⟩:=k2.1 ⟨k,hk,by simp[hq]⟩
  exact⟨j,hj,by simpa using hq2⟩
 ·rintro⟨k,hk,hq⟩
  obtain⟨j,hj,hq2⟩:=k2.2 ⟨k,hk,by simp[hq]⟩
  exact⟨j,hj,by simpa using hq2⟩
def tz (x:Int):Bool:=eJ x (-1000000000) 1000000000
theorem agw (l:List Int)(hl:l.length≤1048576):∃v,vM l=some v∧wZ l=some v:=by
 have h:∃v,lj l (0,0)=some (.inr v):=by
  obtain⟨y,⟨v,rfl⟩,h⟩:=iZ (L:=fun k (n:Int)=>lj l (n,(k:Int))) l.length (fun k n=>True) (fun y=>∃v,y=.inr v) (s:=0)
   (by
    intro k n hk _
    refine .inl ⟨ai (n+l[k]),trivial,?_⟩
    show lj l (_,(k:Int))=lj l (_,((k+1:Nat):Int))
    rw[GZ,lW]
    simp only[ce,decide_eq_true hk,cond_true,ch,List.getElem?_eq_getElem hk,Option.bind_some]
    rw[show ai ((k:Int)+1)=((k+1:Nat):Int) from dm (by omega)])
   (by
    intro n _
    refine⟨.inr n,⟨n,rfl⟩,?_⟩
    show lj l (_,(l.length:Int))=_
    rw[GZ,lW]
    simp only[ce,decide_eq_false (Nat.lt_irrefl _),cond_false]) trivial
  exact⟨v,h⟩
 obtain⟨v,h⟩:=h
 refine⟨v,?_,?_⟩
 ·unfold vM;rw[h];rfl
 ·unfold wZ;rw[show Jl l (0,0)=lj l (0,0) from rfl,h];rfl
structure StF (c:Contract) (s:State) (names:List ac):Prop where
 day:eJ s.Day 0 36524=true
 facts:oX s.Facts=true
 sub:s.Facts.all (fun f=>names.contains f)=true
 dl:s.Duties.length≤24
 bl:s.Balances.length=c.Parties.length
 dut:∀k,k<s.Duties.length→qh c s k=true
 amt:s.Balances.all tz=true
 sum:vM s.Balances=some 0
noncomputable def zd (c:Contract)(s:State)(names:List ac)(v:Int):Bool:=
 eJ s.Day 0 36524&&(oX s.Facts&&(decide (s.Duties.length≤24)&&((s.Balances.length==c.Parties.length)&&(s.Facts.all (fun f=>names.contains f)&&(!((List.range s.Duties.length).any fun k=>!qh c s k)&&(s.Balances.all tz&&v==0))))))
theorem SW (c:Contract)(s:State)(hc:fA c)(hs:mp s)(hb:kX c=true){names:List ac}(hn:pB c=some names)(hnl:names.length≤1048576){v:Int}(hv:vM s.Balances=some v):sf c s=some (zd c s names v):=by
 have hdl:s.Duties.length≤1048576:=hs.2.2.1.1
 have hbl:s.Balances.length≤1048576:=hs.2.2.2.1.1
 have hfl:s.Facts.length≤1048576:=hs.2.1.1
 have hcl:c.Clauses.length≤1048576:=hc.2.1
 unfold sf zd
 rw[wS c hc,Option.bind_some,hb]
 simp only[Bool.not_true,cond_false]
 rw[show rY s.Day=some (eJ s.Day 0 36524) by unfold rY;rw[mR];rfl,Option.bind_some]
 cases eJ s.Day 0 36524 with
 | false=>rfl
 | true=>
  simp only[Bool.not_true,cond_false]
  rw[ST _ hs.2.1,Option.bind_some]
  cases oX s.Facts with
  | false=>rfl
  | true=>
   simp only[Bool.not_true,cond_false,ed]
   have h24:decide (len s.Duties>24)=!decide (s.Duties.length≤24):=by
    by_cases h:s.Duties.length≤24
    ·rw[decide_eq_true h,decide_eq_false (by unfold len;omega)];rfl
    ·rw[decide_eq_false h,decide_eq_true (by unfold len;omega)];rfl
   rw[h24]
   cases decide (s.Duties.length≤24) with
   | false=>rfl
   | true=>
    have hbe:(len s.Balances != len c.Parties)=!(s.Balances.length==c.Parties.length):=by
     unfold len
     by_cases h:s.Balances.length=c.Parties.length
     ·rw[h,bne,beq_self_eq_true,beq_self_eq_true]
     ·rw[bne,beq_eq_false_iff_ne.2 h,beq_eq_false_iff_ne.2 (by omega)]
    simp only[Bool.not_true,cond_false]
    rw[hbe]
    cases s.Balances.length==c.Parties.length with
    | false=>rfl
    | true=>
     simp only[Bool.not_true,cond_false,eG,cb]
     rw[hn,Option.bind_some]
     rw[J1 (L:=uU c s names) (a:=s.Facts) (f:=fun e=>vP names e) (p:=fun f=>names.contains f) (fun x _=>Q6 names x hnl) (fun x=>by rw[RX,oh]) (by omega)]
     cases s.Facts.all (fun f=>names.contains f) with
     | false=>rfl
     | true=>
      rw[if_pos rfl,cb]
      have h:=qE (L:=fun k=>ol c s (k:Int)) (n:=s.Duties.length) (q:=fun k=>!qh c s k) (fun k hk=>by
       show ol c s (k:Int)=_
       rw[HP,l9,ce,decide_eq_true hk,cond_true,XT c s k hk hdl hcl,Option.bind_some,dm (by omega)]
       unfold qh
       rw[List.getElem?_eq_getElem hk]) (by
       show ol c s (s.Duties.length:Int)=_
       rw[HP,l9,ce,decide_eq_false (Nat.lt_irrefl _),cond_false])
      rw[show ol c s 0=_ from h]
      cases (List.range s.Duties.length).any fun k=>!qh c s k with
      | true=>rfl
      | false=>
       rw[if_neg Bool.false_ne_true,cb]
       rw[J1 (L:=uV c s) (a:=s.Balances) (f:=Di) (p:=tz) (fun x _=>by unfold Di;rw[mR];rfl) (fun x=>by rw[RY,om]) (by omega)]
       cases s.Balances.all tz with
       | false=>rfl
       | true=>
        rw[if_pos rfl,cb,hv]
        rfl
theorem SF (c:Contract)(s:State)(hc:fA c)(hs:mp s){names:List ac}(hn:yi c=some names)(hnl:names.length≤1048576){v:Int}(hv:wZ s.Balances=some v):BP c s=some (zd c s names v):=by
 have hdl:s.Duties.length≤1048576:=hs.2.2.1.1
 have hbl:s.Balances.length≤1048576:=hs.2.2.2.1.1
 have hfl:s.Facts.length≤1048576:=hs.2.1.1
 have hcl:c.Clauses.length≤1048576:=hc.2.1
 unfold BP zd
 rw[hn,Option.bind_some]
 rw[show lz s.Day=some (eJ s.Day 0 36524) by unfold lz;rw[lu];rfl,Option.bind_some]
 cases eJ s.Day 0 36524 with
 | false=>rfl
 | true=>
  simp only[Bool.not_true,cond_false]
  rw[SD _ hs.2.1,Option.bind_some]
  cases oX s.Facts with
  | false=>rfl
  | true=>
   simp only[Bool.not_true,cond_false]
   unfold Ju JA
   rw[yy (mI (L:=uo s.Facts names) (a:=s.Facts) (p:=fun x=>BV x names) (q:=fun f=>!names.contains f) (fun x _=>by rw[BV,yB names x hnl];rfl) (fun x=>by rw[RN,nU]) (by omega))]
   have ha:(s.Facts.any fun f=>!names.contains f)=!(s.Facts.all fun f=>names.contains f):=by rw[List.not_all_eq_any_not]
   rw[ha,Option.bind_some]
   have h24:decide (len s.Duties>24)=!decide (s.Duties.length≤24):=by
    by_cases h:s.Duties.length≤24
    ·rw[decide_eq_true h,decide_eq_false (by unfold len;omega)];rfl
    ·rw[decide_eq_false h,decide_eq_true (by unfold len;omega)];rfl
   have hbe:(len s.Balances != len c.Parties)=!(s.Balances.length==c.Parties.length):=by
    unfold len
    by_cases h:s.Balances.length=c.Parties.length
    ·rw[h,bne,beq_self_eq_true,beq_self_eq_true]
    ·rw[bne,beq_eq_false_iff_ne.2 h,beq_eq_false_iff_ne.2 (by omega)]
   rw[h24,hbe]
   cases s.Facts.all (fun f=>names.contains f) with
   | false=>cases decide (s.Duties.length≤24)<;>cases s.Balances.length==c.Parties.length<;>rfl
   | true=>
    simp only[Bool.not_true,eG,cb,cond_false]
    cases decide (s.Duties.length≤24) with
    | false=>rfl
    | true=>
     cases s.Balances.length==c.Parties.length with
     | false=>rfl
     | true=>
      simp only[Bool.not_true,cond_false,eG,cb,hv,Option.bind_some]
      have h:=qE (L:=fun k=>nE c s (k:Int)) (n:=s.Duties.length) (q:=fun k=>!re c s k) (fun k hk=>by
       show nE c s (k:Int)=_
       rw[Ew,lK,ce,decide_eq_true hk,cond_true,Xm c s k hk hdl hcl,Option.bind_some,dm (by omega)]
       unfold re
       rw[List.getElem?_eq_getElem hk]) (by
       show nE c s (s.Duties.length:Int)=_
       rw[Ew,lK,ce,decide_eq_false (Nat.lt_irrefl _),cond_false])
      rw[show nE c s 0=_ from h,W9]
      unfold Jt Jz
      rw[yy (mI (L:=un s.Balances ()) (a:=s.Balances) (p:=fun x=>BX x) (q:=fun b=>!tz b) (fun x _=>by rw[BX,QS,lu];rfl) (fun x=>by rw[RM,nT]) (by omega))]
      have hb2:(s.Balances.any fun b=>!tz b)=!(s.Balances.all tz):=by rw[List.not_all_eq_any_not]
      rw[hb2]
      cases hv0:v==0 with
      | false=>
       rw[bne,hv0]
       cases (List.range s.Duties.length).any fun k=>!re c s k<;>cases s.Balances.all tz<;>rfl
      | true=>
       rw[bne,hv0]
       cases (List.range s.Duties.length).any fun k=>!re c s k<;>cases s.Balances.all tz<;>rfl
theorem agv (c:Contract)(s:State)(hc:fA c)(hs:mp s):∃b,sf c s=some b∧KD c s=some b∧(b=true→kX c=true∧∃names,pB c=some names∧yi c=some names∧StF c s names):=by
 cases hb:kX c with
 | false=>
  refine⟨false,?_,?_,by simp⟩
  ·unfold sf;rw[wS c hc,Option.bind_some,hb];rfl
  ·unfold KD;rw[wN c hc,Option.bind_some,hb];rfl
 | true=>
  obtain⟨f1,f2,f3,f4⟩:=yC hb
  obtain⟨names,n1,n2,n3,n4⟩:=D2 c hc f2 (sr.2 f4)
  obtain⟨v,v1,v2⟩:=agw s.Balances hs.2.2.2.1.1
  have hnl:names.length≤1048576:=Nat.le_trans n4.2 (by decide)
  refine⟨_,SW c s hc hs hb n1 hnl v1,?_,fun h=>⟨rfl,names,n1,n2,?_⟩⟩
  ·unfold KD
   rw[wN c hc,Option.bind_some,hb,cond_true,SF c s hc hs n2 hnl v2]
   rfl
  ·unfold zd at h
   simp only[Bool.and_eq_true,decide_eq_true_eq,beq_iff_eq,Bool.not_eq_true'] at h
   obtain⟨g1,g2,g3,g4,g5,g6,g7,g8⟩:=h
   refine⟨g1,g2,g5,g3,g4,fun k hk=>?_,g7,by rw[v1,g8]⟩
   rw[List.any_eq_false] at g6
   have:=g6 k (List.mem_range.2 hk)
   simpa using this
def jE (p:Nat→Bool):Nat→List Int
 | 0=>[]
 | n+1=>jE p n++(bif p n then [(n:Int)] else [])
theorem yV (p:Nat→Bool):∀n,(jE p n).length≤n
 | 0=>Nat.le_refl _
 | n+1=>by
  have:=yV p n
  rw[jE,List.length_append]
  cases p n<;>simp<;>omega
theorem OJ {ρ:Type}{L:Nat→List Int→Option (ρ⊕List Int)}(n:Nat)(hn:n≤1048576)(p:Nat→Bool)(hS:∀i out,i<n→out.length≤i→L i out=bif p i then ((iC 8 out [(i:Int)]).bind fun a=>L (i+1) a) else L (i+1) out)(hE:∀out,L n out=some (.inr out)):L 0 []=some (.inr (jE p n)):=by
 obtain⟨y,h1,h2⟩:=iZ (L:=L) n (fun i s=>s=jE p i) (fun y=>y=.inr (jE p n)) (s:=[])
  (by
   rintro i s hi rfl
   have hl:=yV p i
   refine .inl ⟨jE p (i+1),rfl,?_⟩
   rw[hS i _ hi hl,jE]
   cases p i with
   | true=>rw[cond_true,v6 (by omega) (by omega)];rfl
   | false=>rw[cond_false,cond_false,List.append_nil])
  (by rintro s rfl;exact⟨_,rfl,hE _⟩) rfl
 rw[h2,h1]
namespace Sy
def mk (n:Nat)(A:Nat→Int):List Int:=(List.range n).map A
theorem dA {n:Nat}{A:Nat→Int}:(mk n A).length=n:=by simp[mk]
theorem vh {n k:Nat}{A:Nat→Int}(h:k<n):(mk n A)[k]?=some (A k):=by simp[mk,h]
theorem iy {n k:Nat}{A:Nat→Int}(h:k<n):aI (mk n A) (k:Int)=some (A k):=by rw[ch,vh h]
theorem jN {n:Nat}{A B:Nat→Int}(h:∀k,k<n→A k=B k):mk n A=mk n B:=by
 unfold mk
 exact List.map_congr_left fun k hk=>h k (List.mem_range.1 hk)
theorem zP {n i:Nat}{A:Nat→Int}{v:Int}:dw (mk n A) (i:Int) v=mk n (fun k=>if k=i then v else A k):=by
 rw[Ec]
 apply List.ext_getElem?
 intro k
 rw[List.getElem?_set]
 by_cases hk:k<n
 ·rw[dA,vh hk,vh hk]
  by_cases h:i=k
  ·subst h;simp[hk]
  ·simp[h,Ne.symm h]
 ·rw[List.getElem?_eq_none (by rw[dA];omega),List.getElem?_eq_none (by rw[dA];omega)]
  split
  ·split
   ·rename_i h1 h2;rw[dA] at h2;omega
   ·rfl
  ·rfl
theorem Xz {n:Nat}{A:Nat→Int}{x:Int}:x∈mk n A↔∃k,k<n∧A k=x:=by simp[mk]
def ze (A:Nat→Int)(a b l:Nat)(k:Nat):Int:=if a≤k∧k<a+l then A (k - a+b) else if b≤k∧k<b+l then A (k - b+a) else A k
def vq (A:Nat→Int)(a m b:Nat)(k:Nat):Int:=if a≤k∧k<a+(b - m) then A (k - a+m) else if a+(b - m)≤k∧k<b then A (k - (a+(b - m))+a) else A k
theorem pU {x y:Nat}(h:x+y≤1000000000):ai ((x:Int)+(y:Int))=((x+y:Nat):Int):=by rw[fu (by omega) (by omega)];omega
theorem eR {x y:Nat}(h:y≤x)(h2:x≤1000000000):ai ((x:Int) - (y:Int))=((x - y:Nat):Int):=by rw[fu (by omega) (by omega)];omega
theorem nD {x:Nat}(h:x≤1000000000):ai ((x:Int)+1)=((x+1:Nat):Int):=by rw[fu (by omega) (by omega)];omega
theorem pV {x:Nat}(h0:1≤x)(h:x≤1000000000):ai ((x:Int) - 1)=((x - 1:Nat):Int):=by rw[fu (by omega) (by omega)];omega
theorem yJ {x y:Nat}(h:x+y≤1000000000):IntKind.i64.wrap (d8 .u64 (IntKind.u64.wrap (ai ((x:Int)+(y:Int)))) 1)=(((x+y) / 2:Nat):Int):=by
 rw[pU h]
 have e1:IntKind.u64.wrap ((x+y:Nat):Int)=((x+y:Nat):Int):=by
  show ((x+y:Nat):Int) % 18446744073709551616=_
  omega
 rw[e1]
 have e2:d8 .u64 ((x+y:Nat):Int) 1=(((x+y) / 2:Nat):Int):=by
  show Int.fdiv ((x+y:Nat):Int) (2 ^ 1)=_
  rw[Int.fdiv_eq_ediv_of_nonneg _ (by decide)]
  omega
 rw[e2]
 exact fu (by omega) (by omega)
theorem Ef (A:Nat→Int)(s:State)(n a b l:Nat)(hn:n≤1000000)(h1:a+l≤b)(h2:b+l≤n):vI (mk n A) (a:Int) (b:Int) (l:Int) s=some (mk n (ze A a b l)):=by
 unfold vI
 obtain⟨y,rfl,h⟩:=iZ (L:=fun i (D:List Int)=>my (mk n A) (a:Int) (b:Int) (l:Int) s ((i:Int),D)) l (fun i D=>D=mk n (ze A a b i)) (fun y=>y=.inr (mk n (ze A a b l))) (s:=mk n A)
  (by
   rintro i D hi rfl
   refine .inl ⟨_,rfl,?_⟩
   show my (mk n A) (a:Int) (b:Int) (l:Int) s ((i:Int),_)=my (mk n A) (a:Int) (b:Int) (l:Int) s (((i+1:Nat):Int),_)
   rw[Gu,lS]
   have g1:decide ((i:Int)<(l:Int))=true:=decide_eq_true (by omega)
   simp only[g1,cond_true,pU (show b+i≤1000000000 by omega),pU (show a+i≤1000000000 by omega),nD (show i≤1000000000 by omega),iy (show b+i<n by omega),iy (show a+i<n by omega),Option.bind_some,zP,ed]
   congr 2
   apply jN
   intro k hk
   unfold ze
   repeat' split
   all_goals first | omega | exact congrArg A (by omega) | (congr 1;omega) | rfl)
  (by
   rintro D rfl
   refine⟨_,rfl,?_⟩
   show my (mk n A) (a:Int) (b:Int) (l:Int) s ((l:Int),_)=_
   rw[Gu,lS]
   simp only[decide_eq_false (Int.lt_irrefl _),cond_false])
  (jN fun k _=>by
   unfold ze
   repeat' split
   all_goals first | omega | rfl)
 rw[show my (mk n A) (a:Int) (b:Int) (l:Int) s (0,mk n A)=_ from h,cb,dA,dA,Nat.beq_refl]
 rfl
theorem D6 (A0:List Int)(s:State)(n a0 m b0:Nat)(hn:n≤1000000):∀(N i j:Nat) (A:Nat→Int),i+j≤N→1≤i→1≤j→i≤m→m+j≤n→∃(h:Nat) (A':Nat→Int),uq A0 (a0:Int) (m:Int) (b0:Int) s ((i:Int),(j:Int),mk n A)=some (.inr ((m:Int),(h:Int),mk n A'))∧h≤m∧m+h≤n∧∀k,ze A' (m - h) m h k=vq A (m - i) m (m+j) k
 | 0,i,j,A,h0,hi,hj,_,_=>by omega
 | N+1,i,j,A,h0,hi,hj,him,hjn=>by
  rw[RO,nV]
  rcases Nat.lt_trichotomy i j with hlt | heq | hgt
  ·have g1:((i:Int) != (j:Int))=true:=by rw[bne,beq_eq_false_iff_ne.2 (by omega)];rfl
   have g2:decide ((i:Int)>(j:Int))=false:=decide_eq_false (by omega)
   simp only[g1,g2,cond_true,cond_false,eR him (show m≤1000000000 by omega),pU (show m+j≤1000000000 by omega),eR (show i≤m+j by omega) (show m+j≤1000000000 by omega),eR (show i≤j by omega) (show j≤1000000000 by omega),Ef A s n (m - i) (m+j - i) i hn (by omega) (by omega),Option.bind_some,dA,Nat.beq_refl,eG]
   obtain⟨h,A',e,p1,p2,p3⟩:=D6 A0 s n a0 m b0 hn N i (j - i) (ze A (m - i) (m+j - i) i) (by omega) hi (by omega) him (by omega)
   refine⟨h,A',e,p1,p2,fun k=>?_⟩
   rw[p3]
   unfold vq ze
   repeat' split
   all_goals first | omega | exact congrArg A (by omega) | (congr 1;omega) | rfl
  ·subst heq
   refine⟨i,A,?_,him,hjn,fun k=>?_⟩
   ·simp only[bne_self_eq_false,cond_false]
   ·unfold vq ze
    repeat' split
    all_goals first | omega | exact congrArg A (by omega) | (congr 1;omega) | rfl
  ·have g1:((i:Int) != (j:Int))=true:=by rw[bne,beq_eq_false_iff_ne.2 (by omega)];rfl
   have g2:decide ((i:Int)>(j:Int))=true:=decide_eq_true (by omega)
   simp only[g1,g2,cond_true,eR him (show m≤1000000000 by omega),eR (show j≤i by omega) (show i≤1000000000 by omega),Ef A s n (m - i) m j hn (by omega) (by omega),Option.bind_some,dA,Nat.beq_refl,eG]
   obtain⟨h,A',e,p1,p2,p3⟩:=D6 A0 s n a0 m b0 hn N (i - j) j (ze A (m - i) m j) (by omega) (by omega) hj (by omega) hjn
   refine⟨h,A',e,p1,p2,fun k=>?_⟩
   rw[p3]
   unfold vq ze
   repeat' split
   all_goals first | omega | exact congrArg A (by omega) | (congr 1;omega) | rfl
theorem adr (A:Nat→Int)(s:State)(n a m b:Nat)(hn:n≤1000000)(h1:a<m)(h2:m<b)(h3:b≤n):xz (mk n A) (a:Int) (m:Int) (b:Int) s=some (mk n (vq A a m b)):=by
 unfold xz
 rw[eR (show a≤m by omega) (by omega),eR (show m≤b by omega) (by omega)]
 obtain⟨h,A',e,p1,p2,p3⟩:=D6 (mk n A) s n a m b hn ((m - a)+(b - m)) (m - a) (b - m) A (Nat.le_refl _) (by omega) (by omega) (by omega) (by omega)
 rw[e,cb]
 simp only[eR p1 (show m≤1000000000 by omega),Ef A' s n (m - h) m h hn (by omega) p2,Option.bind_some,dA,Nat.beq_refl,cond_true]
 congr 1
 apply jN
 intro k _
 rw[p3,show m - (m - a)=a by omega,show m+(b - m)=b by omega]
theorem aaq (x y:Int):MA x y=some (if x<y then -1 else if y<x then 1 else 0):=by
 simp only[MA,MB,Option.bind_some,bne_self_eq_false,cond_false]
 by_cases h:x<y
 ·simp[h]
 ·by_cases h':y<x<;>simp[h,h']
def eB (s:State)(x:Int):Int:=match aI s.Duties x with
 | some d=>d.Due
 | none=>0
def oz (s:State)(x:Int):Prop:=(aI s.Duties x).isSome=true
theorem zB {s:State}{x y:Int}(hx:oz s x)(hy:oz s y):∃r:Int,Be x y s=some r∧decide (r<0)=decide (eB s x<eB s y):=by
 unfold Be eB
 unfold oz at hx hy
 cases h1:aI s.Duties x with
 | none=>rw[h1] at hx;cases hx
 | some d=>
  cases h2:aI s.Duties y with
  | none=>rw[h2] at hy;cases hy
  | some e=>
   simp only[Option.bind_some,aaq]
   refine⟨_,rfl,?_⟩
   by_cases h:d.Due<e.Due
   ·simp[h]
   ·by_cases h':e.Due<d.Due<;>simp[h,h']
def T (s:State)(x y:Int):Prop:=eB s x<eB s y∨(eB s x=eB s y∧x<y)
theorem T.le {s:State}{x y:Int}(h:T s x y):eB s x≤eB s y:=by rcases h with h | h<;>omega
theorem T.trans {s:State}{x y z:Int}(h:T s x y)(h2:T s y z):T s x z:=by
 rcases h with h | h<;>rcases h2 with h2 | h2
 ·exact .inl (by omega)
 ·exact .inl (by omega)
 ·exact .inl (by omega)
 ·exact .inr (by omega)
theorem T.irrefl {s:State}{x:Int}(h:T s x x):False:=by rcases h with h | h<;>omega
def sV (s:State)(A:Nat→Int)(a b:Nat):Prop:=∀i j,a≤i→i<j→j<b→T s (A i) (A j)
def Crs (s:State)(A:Nat→Int)(a m b:Nat):Prop:=∀i j,a≤i→i<m→m≤j→j<b→eB s (A i)=eB s (A j)→A i<A j
def lB (A' A:Nat→Int)(a b:Nat):Prop:=∀k,(k<a∨b≤k)→A' k=A k
def gY (A' A:Nat→Int)(a b:Nat):Prop:=(∀k,a≤k→k<b→∃k',a≤k'∧k'<b∧A' k=A k')∧(∀k,a≤k→k<b→∃k',a≤k'∧k'<b∧A k=A' k')
theorem gY.refl {A:Nat→Int}{a b:Nat}:gY A A a b:=⟨fun k h1 h2=>⟨k,h1,h2,rfl⟩,fun k h1 h2=>⟨k,h1,h2,rfl⟩⟩
theorem gY.trans {A B C:Nat→Int}{a b:Nat}(h:gY A B a b)(h2:gY B C a b):gY A C a b:=
 ⟨fun k q1 q2=>by
  obtain⟨k',p1,p2,p3⟩:=h.1 k q1 q2
  obtain⟨k2,r1,r2,r3⟩:=h2.1 k' p1 p2
  exact⟨k2,r1,r2,p3.trans r3⟩,fun k q1 q2=>by
  obtain⟨k',p1,p2,p3⟩:=h2.2 k q1 q2
  obtain⟨k2,r1,r2,r3⟩:=h.2 k' p1 p2
  exact⟨k2,r1,r2,p3.trans r3⟩⟩
theorem gY.widen {A B:Nat→Int}{a b c d:Nat}(h:gY A B c d)(ho:lB A B c d)(h1:a≤c)(h2:d≤b):gY A B a b:=by
 refine⟨fun k q1 q2=>?_,fun k q1 q2=>?_⟩
 ·by_cases hk:c≤k∧k<d
  ·obtain⟨k',p1,p2,p3⟩:=h.1 k hk.1 hk.2
   exact⟨k',by omega,by omega,p3⟩
  ·exact⟨k,q1,q2,ho k (by omega)⟩
 ·by_cases hk:c≤k∧k<d
  ·obtain⟨k',p1,p2,p3⟩:=h.2 k hk.1 hk.2
   exact⟨k',by omega,by omega,p3⟩
  ·exact⟨k,q1,q2,(ho k (by omega)).symm⟩
theorem J2 {β:Type}{L:Int×Int→Option β}{R:Nat→β}{q:Nat→Bool}{lo hi:Nat}(hlh:lo≤hi)(hm:∀x y,lo≤x→x<y→y<hi→q y=true→q x=true)(hS:∀i j:Nat,lo≤i→i<j→j≤hi→L ((i:Int),(j:Int))=bif q ((i+j) / 2) then L ((((i+j) / 2+1:Nat):Int),(j:Int)) else L ((i:Int),(((i+j) / 2:Nat):Int)))(hE:∀i:Nat,lo≤i→i≤hi→L ((i:Int),(i:Int))=some (R i)):∃i,lo≤i∧i≤hi∧L ((lo:Int),(hi:Int))=some (R i)∧(∀x,lo≤x→x<i→q x=true)∧(∀x,i≤x→x<hi→q x=false):=by
 have key:∀N (i j:Nat),j - i≤N→lo≤i→i≤j→j≤hi→(∀x,lo≤x→x<i→q x=true)→(∀x,j≤x→x<hi→q x=false)→∃k,lo≤k∧k≤hi∧L ((i:Int),(j:Int))=some (R k)∧(∀x,lo≤x→x<k→q x=true)∧(∀x,k≤x→x<hi→q x=false):=by
  intro N
  induction N with
  | zero=>
   intro i j h0 h1 h2 h3 h4 h5
   obtain rfl:i=j:=by omega
   exact⟨i,h1,h3,hE i h1 h3,h4,h5⟩
  | succ N ih=>
   intro i j h0 h1 h2 h3 h4 h5
   rcases Nat.lt_or_eq_of_le h2 with h6 | rfl
   ·rw[hS i j h1 h6 h3]
    cases hq:q ((i+j) / 2) with
    | true=>
     refine ih ((i+j) / 2+1) j (by omega) (by omega) (by omega) h3 (fun x hx1 hx2=>?_) h5
     rcases Nat.lt_or_eq_of_le (Nat.le_of_lt_succ hx2) with h7 | rfl
     ·exact hm x _ hx1 h7 (by omega) hq
     ·exact hq
    | false=>
     refine ih i ((i+j) / 2) (by omega) h1 (by omega) (by omega) h4 (fun x hx1 hx2=>?_)
     rcases Nat.lt_or_eq_of_le hx1 with h7 | rfl
     ·cases hqx:q x with
      | false=>rfl
      | true=>rw[hm _ x (by omega) h7 hx2 hqx] at hq;cases hq
     ·exact hq
   ·exact⟨i,h1,h3,hE i h1 h3,h4,h5⟩
 exact key (hi - lo) lo hi (Nat.le_refl _) (Nat.le_refl _) hlh (Nat.le_refl _) (fun x h1 h2=>by omega) (fun x h1 h2=>by omega)
def K4 (A:Nat→Int)(a k x:Nat):Int:=if a≤x∧x<k then A (x+1) else if x=k then A a else A x
def jC (A:Nat→Int)(m k x:Nat):Int:=if k<x∧x≤m then A (x - 1) else if x=k then A m else A x
theorem adv (s:State)(n:Nat)(hn:n≤1000000):∀(N a m b:Nat) (A:Nat→Int),b - a≤N→a<m→m<b→b≤n→(∀k,k<n→oz s (A k))→sV s A a m→sV s A m b→Crs s A a m b→
  ∃A',JB (mk n A) (a:Int) (m:Int) (b:Int) s=some (mk n A')∧lB A' A a b∧gY A' A a b∧sV s A' a b:=by
 intro N
 induction N with
 | zero=>intro a m b A h0 h1 h2;omega
 | succ N ih=>
  intro a m b A h0 h1 h2 h3 hok hA hB hC
  rw[acb]
  unfold uz
  rw[eR (show a≤m by omega) (by omega),eR (show m≤b by omega) (by omega)]
  by_cases c1:m - a=1
  ·-- one element at the left
   have hma:m=a+1:=by omega
   rw[show ((((m - a:Nat):Int))==1)=true by rw[c1];rfl,cond_true]
   obtain⟨i,i1,i2,i3,i4,i5⟩:=J2 (L:=pw (aN fI) (mk n A) (a:Int) (m:Int) (b:Int) s) (R:=fun i=>.inr ((a:Int),(i:Int),mk n A)) (q:=fun h=>decide (eB s (A h)<eB s (A a))) (lo:=m) (hi:=b) (by omega)
    (fun x y hx hxy hy hq=>by
     rw[decide_eq_true_eq] at hq ⊢
     have:=(hB x y hx hxy hy).le
     omega)
    (fun i j hi hij hj=>by
     rw[Gv,js]
     obtain⟨r,r1,r2⟩:=zB (hok ((i+j) / 2) (by omega)) (hok a (by omega))
     simp only[show decide ((i:Int)<(j:Int))=true from decide_eq_true (by omega),cond_true,yJ (show i+j≤1000000000 by omega),iy (show (i+j) / 2<n by omega),iy (show a<n by omega),Option.bind_some,r1,r2,ed,nD (show (i+j) / 2≤1000000000 by omega)]
     cases decide (eB s (A ((i+j) / 2))<eB s (A a))<;>rfl)
    (fun i hi hi2=>by
     rw[Gv,js]
     simp only[decide_eq_false (Int.lt_irrefl _),cond_false])
   rw[i3,cb]
   obtain⟨y,rfl,h⟩:=iZ (L:=fun t (D:List Int)=>jX (aN fI) (mk n A) (a:Int) (m:Int) (b:Int) s ((a:Int),(i:Int),mk n A) (((a+t:Nat):Int),D)) (i - 1 - a) (fun t D=>D=mk n (K4 A a (a+t))) (fun y=>y=.inr (mk n (K4 A a (i - 1)))) (s:=mk n A)
    (by
     rintro t D ht rfl
     refine .inl ⟨_,rfl,?_⟩
     show jX (aN fI) (mk n A) (a:Int) (m:Int) (b:Int) s ((a:Int),(i:Int),mk n A) (((a+t:Nat):Int),_)=jX (aN fI) (mk n A) (a:Int) (m:Int) (b:Int) s ((a:Int),(i:Int),mk n A) (((a+(t+1):Nat):Int),_)
     rw[Gw,jt]
     simp only[pV (show 1≤i by omega) (show i≤1000000000 by omega),show decide (((a+t:Nat):Int)<((i - 1:Nat):Int))=true from decide_eq_true (by omega),cond_true,nD (show a+t≤1000000000 by omega),iy (show a+t+1<n by omega),iy (show a+t<n by omega),Option.bind_some,zP,ed]
     rw[show a+(t+1)=a+t+1 by omega]
     congr 2
     apply jN
     intro k hk
     unfold K4
     repeat' split
     all_goals first | omega | exact congrArg A (by omega) | (congr 1;omega) | rfl)
    (by
     rintro D rfl
     refine⟨_,rfl,?_⟩
     show jX (aN fI) (mk n A) (a:Int) (m:Int) (b:Int) s ((a:Int),(i:Int),mk n A) (((a+(i - 1 - a):Nat):Int),_)=_
     rw[Gw,jt,show a+(i - 1 - a)=i - 1 by omega]
     simp only[pV (show 1≤i by omega) (show i≤1000000000 by omega),decide_eq_false (Int.lt_irrefl _),cond_false])
    (jN fun k _=>by
     unfold K4
     repeat' split
     all_goals first | omega | exact congrArg A (by omega) | (congr 1;omega) | rfl)
   rw[show jX (aN fI) (mk n A) (a:Int) (m:Int) (b:Int) s ((a:Int),(i:Int),mk n A) ((a:Int),mk n A)=_ from h,cb,dA,dA,Nat.beq_refl,cond_true]
   refine⟨_,rfl,fun k hk=>?_,⟨fun k k1 k2=>?_,fun k k1 k2=>?_⟩,fun x y hx hxy hy=>?_⟩
   ·unfold K4
    repeat' split
    all_goals first | omega | exact congrArg A (by omega) | (congr 1;omega) | rfl
   ·unfold K4
    by_cases q1:k<i - 1
    ·exact⟨k+1,by omega,by omega,by rw[if_pos (by omega)]⟩
    ·by_cases q2:k=i - 1
     ·exact⟨a,by omega,by omega,by rw[if_neg (by omega),if_pos q2]⟩
     ·exact⟨k,by omega,by omega,by rw[if_neg (by omega),if_neg q2]⟩
   ·unfold K4
    by_cases q1:k=a
    ·exact⟨i - 1,by omega,by omega,by rw[if_neg (by omega),if_pos rfl,q1]⟩
    ·by_cases q2:k<i
     ·exact⟨k - 1,by omega,by omega,by rw[if_pos (by omega)];congr 1;omega⟩
     ·exact⟨k,by omega,by omega,by rw[if_neg (by omega),if_neg (by omega)]⟩
   ·have hlow:∀z,m≤z→z<i→T s (A z) (A a):=fun z z1 z2=>by
     have:=i4 z z1 z2
     rw[decide_eq_true_eq] at this
     exact .inl this
    have hhigh:∀z,i≤z→z<b→T s (A a) (A z):=fun z z1 z2=>by
     have h7:=i5 z z1 z2
     rw[decide_eq_false_iff_not] at h7
     by_cases h8:eB s (A a)=eB s (A z)
     ·exact .inr ⟨h8,hC a z (Nat.le_refl _) (by omega) (by omega) z2 h8⟩
     ·exact .inl (by omega)
    unfold K4
    by_cases x1:x<i - 1
    ·rw[if_pos (show a≤x∧x<i - 1 from⟨hx,x1⟩)]
     by_cases y1:y<i - 1
     ·rw[if_pos (by omega)];exact hB (x+1) (y+1) (by omega) (by omega) (by omega)
     ·by_cases y2:y=i - 1
      ·rw[if_neg (by omega),if_pos y2];exact hlow (x+1) (by omega) (by omega)
      ·rw[if_neg (by omega),if_neg y2];exact hB (x+1) y (by omega) (by omega) hy
    ·by_cases x2:x=i - 1
     ·rw[if_neg (show ¬(a≤x∧x<i - 1) by omega),if_pos x2,if_neg (by omega),if_neg (by omega)]
      exact hhigh y (by omega) hy
     ·rw[if_neg (show ¬(a≤x∧x<i - 1) by omega),if_neg x2,if_neg (by omega),if_neg (by omega)]
      exact hB x y (by omega) hxy hy
  rw[show ((((m - a:Nat):Int))==1)=false from beq_eq_false_iff_ne.2 (by omega),cond_false]
  by_cases c2:b - m=1
  ·-- one element at the right
   rw[show ((((b - m:Nat):Int))==1)=true by rw[c2];rfl,cond_true]
   obtain⟨i,i1,i2,i3,i4,i5⟩:=J2 (L:=px (aN fI) (mk n A) (a:Int) (m:Int) (b:Int) s) (R:=fun i=>.inr ((m:Int),(i:Int),mk n A)) (q:=fun h=>!decide (eB s (A m)<eB s (A h))) (lo:=a) (hi:=m) (by omega)
    (fun x y hx hxy hy hq=>by
     rw[Bool.not_eq_true',decide_eq_false_iff_not] at hq ⊢
     have:=(hA x y hx hxy hy).le
     omega)
    (fun i j hi hij hj=>by
     rw[Gx,ju]
     obtain⟨r,r1,r2⟩:=zB (hok m (by omega)) (hok ((i+j) / 2) (by omega))
     simp only[show decide ((i:Int)<(j:Int))=true from decide_eq_true (by omega),cond_true,yJ (show i+j≤1000000000 by omega),iy (show (i+j) / 2<n by omega),iy (show m<n by omega),Option.bind_some,r1,r2,ed,nD (show (i+j) / 2≤1000000000 by omega)]
     cases decide (eB s (A m)<eB s (A ((i+j) / 2)))<;>rfl)
    (fun i hi hi2=>by
     rw[Gx,ju]
     simp only[decide_eq_false (Int.lt_irrefl _),cond_false])
   rw[i3,cb]
   obtain⟨y,rfl,h⟩:=iZ (L:=fun t (D:List Int)=>jY (aN fI) (mk n A) (a:Int) (m:Int) (b:Int) s ((m:Int),(i:Int),mk n A) (((m - t:Nat):Int),D)) (m - i) (fun t D=>D=mk n (jC A m (m - t))) (fun y=>y=.inr (mk n (jC A m i))) (s:=mk n A)
    (by
     rintro t D ht rfl
     refine .inl ⟨_,rfl,?_⟩
     show jY (aN fI) (mk n A) (a:Int) (m:Int) (b:Int) s ((m:Int),(i:Int),mk n A) (((m - t:Nat):Int),_)=jY (aN fI) (mk n A) (a:Int) (m:Int) (b:Int) s ((m:Int),(i:Int),mk n A) (((m - (t+1):Nat):Int),_)
     rw[Gy,jv]
     simp only[show decide (((m - t:Nat):Int)>(i:Int))=true from decide_eq_true (by omega),cond_true,pV (show 1≤m - t by omega) (show m - t≤1000000000 by omega),iy (show m - t - 1<n by omega),iy (show m - t<n by omega),Option.bind_some,zP,ed]
     rw[show m - (t+1)=m - t - 1 by omega]
     congr 2
     apply jN
     intro k hk
     unfold jC
     repeat' split
     all_goals first | omega | exact congrArg A (by omega) | (congr 1;omega) | rfl)
    (by
     rintro D rfl
     refine⟨_,rfl,?_⟩
     show jY (aN fI) (mk n A) (a:Int) (m:Int) (b:Int) s ((m:Int),(i:Int),mk n A) (((m - (m - i):Nat):Int),_)=_
     rw[Gy,jv,show m - (m - i)=i by omega]
     simp only[show decide ((i:Int)>(i:Int))=false from decide_eq_false (Int.lt_irrefl _),cond_false])
    (jN fun k _=>by
     unfold jC
     repeat' split
     all_goals first | omega | exact congrArg A (by omega) | (congr 1;omega) | rfl)
   rw[show jY (aN fI) (mk n A) (a:Int) (m:Int) (b:Int) s ((m:Int),(i:Int),mk n A) ((m:Int),mk n A)=_ from h,cb,dA,dA,Nat.beq_refl,cond_true]
   refine⟨_,rfl,fun k hk=>?_,⟨fun k k1 k2=>?_,fun k k1 k2=>?_⟩,fun x y hx hxy hy=>?_⟩
   ·unfold jC
    repeat' split
    all_goals first | omega | exact congrArg A (by omega) | (congr 1;omega) | rfl
   ·unfold jC
    by_cases q1:i<k∧k≤m
    ·exact⟨k - 1,by omega,by omega,by rw[if_pos q1]⟩
    ·by_cases q2:k=i
     ·exact⟨m,by omega,by omega,by rw[if_neg q1,if_pos q2]⟩
     ·exact⟨k,by omega,by omega,by rw[if_neg q1,if_neg q2]⟩
   ·unfold jC
    by_cases q1:k=m
    ·exact⟨i,by omega,by omega,by rw[if_neg (by omega),if_pos rfl,q1]⟩
    ·by_cases q2:i≤k
     ·exact⟨k+1,by omega,by omega,by rw[if_pos (by omega)];congr 1⟩
     ·exact⟨k,by omega,by omega,by rw[if_neg (by omega),if_neg (by omega)]⟩
   ·have hlow:∀z,a≤z→z<i→T s (A z) (A m):=fun z z1 z2=>by
     have h7:=i4 z z1 z2
     rw[Bool.not_eq_true',decide_eq_false_iff_not] at h7
     by_cases h8:eB s (A z)=eB s (A m)
     ·exact .inr ⟨h8,hC z m z1 (by omega) (Nat.le_refl _) (by omega) h8⟩
     ·exact .inl (by omega)
    have hhigh:∀z,i≤z→z<m→T s (A m) (A z):=fun z z1 z2=>by
     have h7:=i5 z z1 z2
     rw[Bool.not_eq_false',decide_eq_true_eq] at h7
     exact .inl h7
    unfold jC
    by_cases x1:i<x
    ·rw[if_pos (show i<x∧x≤m by omega),if_pos (show i<y∧y≤m by omega)]
     exact hA (x - 1) (y - 1) (by omega) (by omega) (by omega)
    ·by_cases x2:x=i
     ·rw[if_neg (show ¬(i<x∧x≤m) by omega),if_pos x2,if_pos (show i<y∧y≤m by omega)]
      exact hhigh (y - 1) (by omega) (by omega)
     ·rw[if_neg (show ¬(i<x∧x≤m) by omega),if_neg x2]
      by_cases y1:i<y
      ·rw[if_pos (show i<y∧y≤m by omega)];exact hA x (y - 1) hx (by omega) (by omega)
      ·by_cases y2:y=i
       ·rw[if_neg (show ¬(i<y∧y≤m) by omega),if_pos y2];exact hlow x hx (by omega)
       ·rw[if_neg (show ¬(i<y∧y≤m) by omega),if_neg y2];exact hA x y hx hxy (by omega)
  rw[show ((((b - m:Nat):Int))==1)=false from beq_eq_false_iff_ne.2 (by omega),cond_false]
  -- both sides are longer
  rw[yJ (show a+b≤1000000000 by omega)]
  obtain⟨mid,hmid⟩:∃mid,mid=(a+b) / 2:=⟨_,rfl⟩
  rw[←hmid]
  simp only[pU (show mid+m≤1000000000 by omega)]
  obtain⟨lo,r,hlr,hlo,hpair⟩:∃lo r:Nat,lo≤r∧((mid<m∧lo=mid+m - b∧r=mid)∨(m≤mid∧lo=a∧r=m))∧(bif decide ((m:Int)>(mid:Int)) then ((ai (((mid+m:Nat):Int) - (b:Int))),(mid:Int)) else ((a:Int),(m:Int)))=((lo:Int),(r:Int)):=by
   by_cases hm:mid<m
   ·refine⟨mid+m - b,mid,by omega,.inl ⟨hm,rfl,rfl⟩,?_⟩
    rw[decide_eq_true (by omega),cond_true,eR (show b≤mid+m by omega) (by omega)]
   ·refine⟨a,m,by omega,.inr ⟨by omega,rfl,rfl⟩,?_⟩
    rw[decide_eq_false (by omega),cond_false]
  rw[hpair,ed]
  obtain⟨st,i1,i2,i3,i4,i5⟩:=J2 (L:=rH (aN fI) (mk n A) (a:Int) (m:Int) (b:Int) s) (R:=fun i=>.inr ((b:Int),(mid:Int),((mid+m:Nat):Int),(i:Int))) (q:=fun c=>!decide (eB s (A (mid+m - 1 - c))<eB s (A c))) (lo:=lo) (hi:=r) hlr
   (fun x y hx hxy hy hq=>by
    rw[Bool.not_eq_true',decide_eq_false_iff_not] at hq ⊢
    have q1:=(hA x y (by omega) hxy (by omega)).le
    have q2:=(hB (mid+m - 1 - y) (mid+m - 1 - x) (by omega) (by omega) (by omega)).le
    omega)
   (fun i j hi hij hj=>by
    rw[Gz,kw]
    obtain⟨r',r1,r2⟩:=zB (hok (mid+m - 1 - (i+j) / 2) (by omega)) (hok ((i+j) / 2) (by omega))
    simp only[yJ (show a+b≤1000000000 by omega)]
    rw[←hmid]
    simp only[show decide ((i:Int)<(j:Int))=true from decide_eq_true (by omega),cond_true,yJ (show i+j≤1000000000 by omega),pU (show mid+m≤1000000000 by omega),pV (show 1≤mid+m by omega) (show mid+m≤1000000000 by omega),eR (show (i+j) / 2≤mid+m - 1 by omega) (show mid+m - 1≤1000000000 by omega),iy (show mid+m - 1 - (i+j) / 2<n by omega),iy (show (i+j) / 2<n by omega),Option.bind_some,r1,r2,ed,nD (show (i+j) / 2≤1000000000 by omega)]
    cases decide (eB s (A (mid+m - 1 - (i+j) / 2))<eB s (A ((i+j) / 2)))<;>rfl)
   (fun i hi hi2=>by
    rw[Gz,kw]
    simp only[yJ (show a+b≤1000000000 by omega)]
    rw[←hmid]
    simp only[decide_eq_false (Int.lt_irrefl _),cond_false,pU (show mid+m≤1000000000 by omega)])
  rw[i3,cb]
  obtain⟨en,hen⟩:∃en,en=mid+m - st:=⟨_,rfl⟩
  have hend:ai (((mid+m:Nat):Int) - (st:Int))=(en:Int):=by rw[eR (by omega) (by omega),hen]
  simp only[hend,ed]
  have b1:a≤st:=by omega
  have b2:st≤mid:=by omega
  have b3:st≤m:=by omega
  have b4:m≤en:=by omega
  have b5:mid≤en:=by omega
  have b6:en≤b:=by omega
  -- what the search has found
  have f1:∀x y,a≤x→x<st→en≤y→y<b→T s (A x) (A y):=fun x y x1 x2 y1 y2=>by
   by_cases hs:lo<st
   ·have h7:=i4 (st - 1) (by omega) (by omega)
    rw[Bool.not_eq_true',decide_eq_false_iff_not,show mid+m - 1 - (st - 1)=en by omega] at h7
    have h9:T s (A (st - 1)) (A en):=by
     by_cases h8:eB s (A (st - 1))=eB s (A en)
     ·exact .inr ⟨h8,hC (st - 1) en (by omega) (by omega) (by omega) (by omega) h8⟩
     ·exact .inl (by omega)
    have h10:T s (A x) (A en):=by
     rcases Nat.lt_or_eq_of_le (show x≤st - 1 by omega) with h | rfl
     ·exact (hA x (st - 1) x1 h (by omega)).trans h9
     ·exact h9
    rcases Nat.lt_or_eq_of_le y1 with h | rfl
    ·exact h10.trans (hB en y b4 h y2)
    ·exact h10
   ·omega
  have f2:∀x y,m≤x→x<en→st≤y→y<m→T s (A x) (A y):=fun x y x1 x2 y1 y2=>by
   by_cases hs:st<r
   ·have h7:=i5 st (Nat.le_refl _) hs
    rw[Bool.not_eq_false',decide_eq_true_eq,show mid+m - 1 - st=en - 1 by omega] at h7
    have h9:T s (A (en - 1)) (A st):=.inl h7
    have h10:T s (A x) (A st):=by
     rcases Nat.lt_or_eq_of_le (show x≤en - 1 by omega) with h | rfl
     ·exact (hB x (en - 1) x1 h (by omega)).trans h9
     ·exact h9
    rcases Nat.lt_or_eq_of_le y1 with h | rfl
    ·exact h10.trans (hA st y b1 h y2)
    ·exact h10
   ·omega
  obtain⟨A2,hA2⟩:∃A2,A2=vq A st m en:=⟨_,rfl⟩
  have e1:(bif (bif decide ((st:Int)<(m:Int)) then decide ((m:Int)<(en:Int)) else false) then ((xz (mk n A) (st:Int) (m:Int) (en:Int) s).bind fun r62=>bif Nat.beq r62.length (mk n A).length then (some (.inr r62)) else none) else (some (.inr (mk n A))):Option (List Int⊕List Int))=some (.inr (mk n A2)):=by
   by_cases hr:st<m∧m<en
   ·rw[decide_eq_true (by omega),cond_true,decide_eq_true (by omega),cond_true,adr A s n st m en hn hr.1 hr.2 (by omega),Option.bind_some,dA,dA,Nat.beq_refl,hA2]
    rfl
   ·have d5:mk n A=mk n A2:=jN fun k _=>by
     rw[hA2]
     unfold vq
     repeat' split
     all_goals first | omega | exact congrArg A (by omega) | (congr 1;omega) | rfl
    rw[←d5]
    by_cases hr1:st<m
    ·rw[decide_eq_true (by omega),cond_true,decide_eq_false (by omega),cond_false]
    ·rw[decide_eq_false (by omega),cond_false,cond_false]
  rw[e1,cb]
  -- where the elements stand now
  have g1:∀k,a≤k→k<st→A2 k=A k:=fun k _ _=>by rw[hA2];unfold vq;rw[if_neg (by omega),if_neg (by omega)]
  have g2:∀k,st≤k→k<mid→A2 k=A (k - st+m):=fun k _ _=>by rw[hA2];unfold vq;rw[if_pos (by omega)]
  have g3:∀k,mid≤k→k<en→A2 k=A (k - mid+st):=fun k _ _=>by rw[hA2];unfold vq;rw[if_neg (by omega),if_pos (by omega)];congr 1;omega
  have g4:∀k,en≤k→A2 k=A k:=fun k _=>by rw[hA2];unfold vq;rw[if_neg (by omega),if_neg (by omega)]
  have g5:∀k,k<st→A2 k=A k:=fun k _=>by rw[hA2];unfold vq;rw[if_neg (by omega),if_neg (by omega)]
  have hok2:∀k,k<n→oz s (A2 k):=fun k hk=>by
   rw[hA2]
   unfold vq
   repeat' split
   all_goals exact hok _ (by omega)
  have s12:gY A2 A a b:=by
   refine⟨fun k k1 k2=>?_,fun k k1 k2=>?_⟩
   ·by_cases q1:k<st
    ·exact⟨k,k1,k2,g1 k k1 q1⟩
    ·by_cases q2:k<mid
     ·exact⟨k - st+m,by omega,by omega,g2 k (by omega) q2⟩
     ·by_cases q3:k<en
      ·exact⟨k - mid+st,by omega,by omega,g3 k (by omega) q3⟩
      ·exact⟨k,k1,k2,g4 k (by omega)⟩
   ·by_cases q1:k<st
    ·exact⟨k,k1,k2,(g1 k k1 q1).symm⟩
    ·by_cases q2:k<m
     ·exact⟨k - st+mid,by omega,by omega,by rw[g3 _ (by omega) (by omega)];congr 1;omega⟩
     ·by_cases q3:k<en
      ·exact⟨k - m+st,by omega,by omega,by rw[g2 _ (by omega) (by omega)];congr 1;omega⟩
      ·exact⟨k,k1,k2,(g4 k (by omega)).symm⟩
  -- the left yJ
  obtain⟨A3,e2,o3,s3,t3⟩:∃A3,(bif (bif decide ((a:Int)<(st:Int)) then decide ((st:Int)<(mid:Int)) else false) then ((aN fI (mk n A2,(a:Int),(st:Int),(mid:Int),s)).bind fun r60=>bif Nat.beq r60.length (mk n A2).length then (some (.inr r60)) else none) else (some (.inr (mk n A2))):Option (List Int⊕List Int))=some (.inr (mk n A3))∧lB A3 A2 a mid∧gY A3 A2 a mid∧sV s A3 a mid:=by
   by_cases hr:a<st∧st<mid
   ·obtain⟨A3,q1,q2,q3,q4⟩:=ih a st mid A2 (by omega) hr.1 hr.2 (by omega) hok2
     (fun i j h1 h2 h3=>by rw[g1 i h1 (by omega),g1 j (by omega) h3];exact hA i j h1 h2 (by omega))
     (fun i j h1 h2 h3=>by rw[g2 i h1 (by omega),g2 j (by omega) h3];exact hB _ _ (by omega) (by omega) (by omega))
     (fun i j h1 h2 h3 h4 h5=>by rw[g1 i h1 h2,g2 j h3 h4] at h5 ⊢;exact hC _ _ h1 (by omega) (by omega) (by omega) h5)
    refine⟨A3,?_,q2,q3,q4⟩
    rw[decide_eq_true (by omega),cond_true,decide_eq_true (by omega),cond_true,show aN fI (mk n A2,(a:Int),(st:Int),(mid:Int),s)=_ from q1,Option.bind_some,dA,dA,Nat.beq_refl]
    rfl
   ·refine⟨A2,?_,fun _ _=>rfl,gY.refl,fun i j h1 h2 h3=>?_⟩
    ·by_cases hr1:a<st
     ·rw[decide_eq_true (by omega),cond_true,decide_eq_false (by omega),cond_false]
     ·rw[decide_eq_false (by omega),cond_false,cond_false]
    ·by_cases q:a<st
     ·rw[g1 i h1 (by omega),g1 j (by omega) (by omega)];exact hA i j h1 h2 (by omega)
     ·rw[g2 i (by omega) (by omega),g2 j (by omega) h3];exact hB _ _ (by omega) (by omega) (by omega)
  rw[e2,cb]
  have hok3:∀k,k<n→oz s (A3 k):=fun k hk=>by
   by_cases h:a≤k∧k<mid
   ·obtain⟨k',p1,p2,p3⟩:=s3.1 k h.1 h.2
    rw[p3];exact hok2 k' (by omega)
   ·rw[o3 k (by omega)];exact hok2 k hk
  have g3':∀k,mid≤k→k<en→A3 k=A (k - mid+st):=fun k h1 h2=>by rw[o3 k (by omega)];exact g3 k h1 h2
  have g4':∀k,en≤k→A3 k=A k:=fun k h1=>by rw[o3 k (by omega)];exact g4 k h1
  -- the right yJ
  obtain⟨A4,e3,o4,s4,t4⟩:∃A4,(bif (bif decide ((mid:Int)<(en:Int)) then decide ((en:Int)<(b:Int)) else false) then ((aN fI (mk n A3,(mid:Int),(en:Int),(b:Int),s)).bind fun r58=>bif Nat.beq r58.length (mk n A3).length then (some (.inr r58)) else none) else (some (.inr (mk n A3))):Option (List Int⊕List Int))=some (.inr (mk n A4))∧lB A4 A3 mid b∧gY A4 A3 mid b∧sV s A4 mid b:=by
   by_cases hr:mid<en∧en<b
   ·obtain⟨A4,q1,q2,q3,q4⟩:=ih mid en b A3 (by omega) hr.1 hr.2 h3 hok3
     (fun i j h1 h2 h3=>by rw[g3' i h1 (by omega),g3' j (by omega) h3];exact hA _ _ (by omega) (by omega) (by omega))
     (fun i j h1 h2 h3=>by rw[g4' i h1,g4' j (by omega)];exact hB _ _ (by omega) (by omega) (by omega))
     (fun i j h1 h2 h3 h4 h5=>by rw[g3' i h1 h2,g4' j h3] at h5 ⊢;exact hC _ _ (by omega) (by omega) (by omega) (by omega) h5)
    refine⟨A4,?_,q2,q3,q4⟩
    rw[decide_eq_true (by omega),cond_true,decide_eq_true (by omega),cond_true,show aN fI (mk n A3,(mid:Int),(en:Int),(b:Int),s)=_ from q1,Option.bind_some,dA,dA,Nat.beq_refl]
    rfl
   ·refine⟨A3,?_,fun _ _=>rfl,gY.refl,fun i j h1 h2 h3=>?_⟩
    ·by_cases hr1:mid<en
     ·rw[decide_eq_true (by omega),cond_true,decide_eq_false (by omega),cond_false]
     ·rw[decide_eq_false (by omega),cond_false,cond_false]
    ·by_cases q:mid<en
     ·rw[g3' i h1 (by omega),g3' j (by omega) (by omega)];exact hA _ _ (by omega) (by omega) (by omega)
     ·rw[g4' i (by omega),g4' j (by omega)];exact hB _ _ (by omega) (by omega) (by omega)
  rw[e3,cb,dA,dA,Nat.beq_refl,cond_true]
  have s34:gY A4 A2 a b:=(s4.widen o4 (by omega) (Nat.le_refl _)).trans (s3.widen o3 (Nat.le_refl _) (by omega))
  refine⟨A4,rfl,fun k hk=>?_,s34.trans s12,fun i j h1 h2 h3=>?_⟩
  ·rw[o4 k (by omega),o3 k (by omega)]
   rcases hk with hk | hk
   ·exact g5 k (by omega)
   ·exact g4 k (by omega)
  ·by_cases q1:j<mid
   ·rw[o4 i (by omega),o4 j (by omega)];exact t3 i j h1 h2 q1
   ·by_cases q2:mid≤i
    ·exact t4 i j q2 h2 h3
    ·obtain⟨i',p1,p2,p3⟩:=s3.1 i h1 (by omega)
     obtain⟨j',p4,p5,p6⟩:=s4.1 j (by omega) h3
     rw[o4 i (by omega),p3,p6,o3 j' (by omega)]
     by_cases x1:i'<st
     ·rw[g1 i' p1 x1]
      by_cases y1:j'<en
      ·rw[g3 j' p4 y1];exact hA _ _ p1 (by omega) (by omega)
      ·rw[g4 j' (by omega)];exact f1 _ _ p1 x1 (by omega) p5
     ·rw[g2 i' (by omega) p2]
      by_cases y1:j'<en
      ·rw[g3 j' p4 y1];exact f2 _ _ (by omega) (by omega) (by omega) (by omega)
      ·rw[g4 j' (by omega)];exact hB _ _ (by omega) (by omega) p5
theorem Xq (s:State)(n:Nat)(hn:n≤1000000)(D0:List Int)(a0 b0:Int)(a b':Nat)(i:Nat)(hi:a<i)(hin:i<n)(x5:Int×Int×Int×List Int)(hx5:x5.1=(a:Int))(A:Nat→Int)(hok:∀k,k<n→oz s (A k))(hA:sV s A a i)(hlt:∀k,a≤k→k<i→A k<A i) :
  ∃j,a≤j∧j≤i∧lg D0 a0 b0 s x5 ((i:Int),mk n A)=some (.inr (mk n (jC A i j)))∧sV s (jC A i j) a (i+1):=by
 have key:∀t j,j=i - t→t≤i - a→(∀k,j≤k→k<i→eB s (A i)<eB s (A k))→∃j',a≤j'∧j'≤i∧lg D0 a0 b0 s x5 ((j:Int),mk n (jC A i j))=some (.inr (mk n (jC A i j')))∧(∀k,j'≤k→k<i→eB s (A i)<eB s (A k))∧(a<j'→¬eB s (A i)<eB s (A (j' - 1))):=by
  have main:∀u t j,u+t=i - a→j=i - t→(∀k,j≤k→k<i→eB s (A i)<eB s (A k))→∃j',a≤j'∧j'≤i∧lg D0 a0 b0 s x5 ((j:Int),mk n (jC A i j))=some (.inr (mk n (jC A i j')))∧(∀k,j'≤k→k<i→eB s (A i)<eB s (A k))∧(a<j'→¬eB s (A i)<eB s (A (j' - 1))):=by
   intro u
   induction u with
   | zero=>
    intro t j h1 h2 h3
    have hj:j=a:=by omega
    refine⟨a,Nat.le_refl _,by omega,?_,by rw[←hj];exact h3,fun h=>absurd h (Nat.lt_irrefl _)⟩
    rw[vG,ku,hj,hx5]
    simp only[show decide ((a:Int)>(a:Int))=false from decide_eq_false (Int.lt_irrefl _),cond_false,eG]
   | succ u ih=>
    intro t j h1 h2 h3
    have hja:a<j:=by omega
    have hji:j≤i:=by omega
    have e1:jC A i j j=A i:=by unfold jC;rw[if_neg (by omega),if_pos rfl]
    have e2:jC A i j (j - 1)=A (j - 1):=by unfold jC;rw[if_neg (by omega),if_neg (by omega)]
    obtain⟨r,r1,r2⟩:=zB (hok i hin) (hok (j - 1) (by omega))
    have hst:lg D0 a0 b0 s x5 ((j:Int),mk n (jC A i j))=bif decide (eB s (A i)<eB s (A (j - 1))) then lg D0 a0 b0 s x5 (((j - 1:Nat):Int),mk n (jC A i (j - 1))) else some (.inr (mk n (jC A i j))):=by
     rw[vG,ku,hx5]
     simp only[show decide ((j:Int)>(a:Int))=true from decide_eq_true (by omega),cond_true,pV (show 1≤j by omega) (show j≤1000000000 by omega),iy (show j<n by omega),iy (show j - 1<n by omega),e1,e2,Option.bind_some,r1,r2,eG,zP,ed]
     cases decide (eB s (A i)<eB s (A (j - 1))) with
     | false=>rfl
     | true=>
      rw[cond_true,cond_true]
      congr 2
      apply jN
      intro k hk
      unfold jC
      repeat' split
      all_goals first | omega | exact congrArg A (by omega) | (congr 1;omega) | rfl
    rw[hst]
    cases hd:decide (eB s (A i)<eB s (A (j - 1))) with
    | false=>
     rw[decide_eq_false_iff_not] at hd
     exact⟨j,by omega,hji,rfl,h3,fun _=>hd⟩
    | true=>
     rw[decide_eq_true_eq] at hd
     refine ih (t+1) (j - 1) (by omega) (by omega) fun k k1 k2=>?_
     rcases Nat.lt_or_eq_of_le k1 with h | rfl
     ·exact h3 k (by omega) k2
     ·exact hd
  intro t j h1 h2 h3
  exact main (i - a - t) t j (by omega) h1 h3
 obtain⟨j,j1,j2,j3,j4,j5⟩:=key 0 i (by omega) (by omega) (fun k h1 h2=>by omega)
 refine⟨j,j1,j2,?_,?_⟩
 ·have h0:mk n (jC A i i)=mk n A:=jN fun k _=>by
   unfold jC
   repeat' split
   all_goals first | omega | exact congrArg A (by omega) | rfl
  rw[←h0];exact j3
 ·have hlow:∀z,a≤z→z<j→T s (A z) (A i):=fun z z1 z2=>by
   have h7:=j5 (by omega)
   have h9:T s (A (j - 1)) (A i):=by
    by_cases h8:eB s (A (j - 1))=eB s (A i)
    ·exact .inr ⟨h8,hlt (j - 1) (by omega) (by omega)⟩
    ·exact .inl (by omega)
   rcases Nat.lt_or_eq_of_le (show z≤j - 1 by omega) with h | rfl
   ·exact (hA z (j - 1) z1 h (by omega)).trans h9
   ·exact h9
  intro x y hx hxy hy
  unfold jC
  by_cases x1:j<x
  ·rw[if_pos (show j<x∧x≤i by omega),if_pos (show j<y∧y≤i by omega)]
   exact hA (x - 1) (y - 1) (by omega) (by omega) (by omega)
  ·by_cases x2:x=j
   ·rw[if_neg (show ¬(j<x∧x≤i) by omega),if_pos x2,if_pos (show j<y∧y≤i by omega)]
    exact .inl (j4 (y - 1) (by omega) (by omega))
   ·rw[if_neg (show ¬(j<x∧x≤i) by omega),if_neg x2]
    by_cases y1:j<y
    ·rw[if_pos (show j<y∧y≤i by omega)];exact hA x (y - 1) hx (by omega) (by omega)
    ·by_cases y2:y=j
     ·rw[if_neg (show ¬(j<y∧y≤i) by omega),if_pos y2];exact hlow x hx (by omega)
     ·rw[if_neg (show ¬(j<y∧y≤i) by omega),if_neg y2];exact hA x y hx hxy (by omega)
theorem Kb (s:State)(n:Nat)(hn:n≤1000000)(a b:Nat)(hab:a≤b)(hb:b≤n)(A:Nat→Int)(hok:∀k,k<n→oz s (A k))(hord:∀i j,a≤i→i<j→j<b→A i<A j) :
  ∃A',rU (mk n A) (a:Int) (b:Int) s=some (mk n A')∧lB A' A a b∧gY A' A a b∧sV s A' a b:=by
 have key:∀(u i:Nat) (A1:Nat→Int),i+u=b→a≤i→lB A1 A a i→gY A1 A a i→sV s A1 a i→∃A',mw (mk n A) (a:Int) (b:Int) s ((a:Int),(b:Int),(i:Int),mk n A1)=some (.inr (mk n A'))∧lB A' A a b∧gY A' A a b∧sV s A' a b:=by
  intro u
  induction u with
  | zero=>
   intro i A1 h1 h2 h3 h4 h5
   obtain rfl:i=b:=by omega
   refine⟨A1,?_,h3,h4,h5⟩
   rw[vF,kt]
   simp only[decide_eq_false (Int.lt_irrefl _),cond_false]
  | succ u ih=>
   intro i A1 h1 h2 h3 h4 h5
   have hok1:∀k,k<n→oz s (A1 k):=fun k hk=>by
    by_cases h:a≤k∧k<i
    ·obtain⟨k',p1,p2,p3⟩:=h4.1 k h.1 h.2
     rw[p3];exact hok k' (by omega)
    ·rw[h3 k (by omega)];exact hok k hk
   have hstep:∃A2,mw (mk n A) (a:Int) (b:Int) s ((a:Int),(b:Int),(i:Int),mk n A1)=mw (mk n A) (a:Int) (b:Int) s ((a:Int),(b:Int),((i+1:Nat):Int),mk n A2)∧lB A2 A a (i+1)∧gY A2 A a (i+1)∧sV s A2 a (i+1):=by
    have hS:∀A2,lg (mk n A) (a:Int) (b:Int) s ((a:Int),(b:Int),(i:Int),mk n A1) ((i:Int),mk n A1)=some (.inr (mk n A2))→mw (mk n A) (a:Int) (b:Int) s ((a:Int),(b:Int),(i:Int),mk n A1)=mw (mk n A) (a:Int) (b:Int) s ((a:Int),(b:Int),((i+1:Nat):Int),mk n A2):=fun A2 h=>by
     rw[vF,kt]
     simp only[show decide ((i:Int)<(b:Int))=true from decide_eq_true (by omega),cond_true,h,eG,nD (show i≤1000000000 by omega)]
    rcases Nat.lt_or_eq_of_le h2 with hai | rfl
    ·obtain⟨j,j1,j2,j3,j4⟩:=Xq s n hn (mk n A) (a:Int) (b:Int) a b i hai (by omega) ((a:Int),(b:Int),(i:Int),mk n A1) rfl A1 hok1 h5 (fun k k1 k2=>by
      obtain⟨k',p1,p2,p3⟩:=h4.1 k k1 k2
      rw[p3,h3 i (by omega)]
      exact hord k' i p1 (by omega) (by omega))
     refine⟨jC A1 i j,hS _ j3,fun k hk=>?_,gY.trans (B:=A1) ⟨fun k k1 k2=>?_,fun k k1 k2=>?_⟩ (h4.widen h3 (Nat.le_refl _) (by omega)),j4⟩
     ·rw[←h3 k (by omega)]
      unfold jC
      repeat' split
      all_goals first | omega | exact congrArg A1 (by omega) | rfl
     ·unfold jC
      by_cases q1:j<k∧k≤i
      ·exact⟨k - 1,by omega,by omega,by rw[if_pos q1]⟩
      ·by_cases q2:k=j
       ·exact⟨i,by omega,by omega,by rw[if_neg q1,if_pos q2]⟩
       ·exact⟨k,by omega,by omega,by rw[if_neg q1,if_neg q2]⟩
     ·unfold jC
      by_cases q1:k=i
      ·exact⟨j,by omega,by omega,by rw[if_neg (by omega),if_pos rfl,q1]⟩
      ·by_cases q2:j≤k
       ·exact⟨k+1,by omega,by omega,by rw[if_pos (by omega)];congr 1⟩
       ·exact⟨k,by omega,by omega,by rw[if_neg (by omega),if_neg (by omega)]⟩
    ·refine⟨A1,hS _ ?_,fun k hk=>h3 k (by omega),h4.widen h3 (Nat.le_refl _) (by omega),fun x y _ _ _=>by omega⟩
     rw[vG,ku]
     simp only[show decide ((a:Int)>(a:Int))=false from decide_eq_false (Int.lt_irrefl _),cond_false,eG]
   obtain⟨A2,e,q1,q2,q3⟩:=hstep
   obtain⟨A',e',p1,p2,p3⟩:=ih (i+1) A2 (by omega) (by omega) q1 q2 q3
   exact⟨A',e.trans e',p1,p2,p3⟩
 unfold rU
 rw[nD (show a≤1000000000 by omega)]
 rcases Nat.lt_or_eq_of_le hab with h | rfl
 ·obtain⟨A',e,p1,p2,p3⟩:=key (b - (a+1)) (a+1) A (by omega) (by omega) (fun k _=>rfl) gY.refl (fun x y _ _ _=>by omega)
  refine⟨A',?_,p1,p2,p3⟩
  rw[e,cb,dA,dA,Nat.beq_refl]
  rfl
 ·refine⟨A,?_,fun k _=>rfl,gY.refl,fun x y _ _ _=>by omega⟩
  rw[vF,kt]
  simp only[show decide (((a+1:Nat):Int)<(a:Int))=false from decide_eq_false (by omega),cond_false,cb,dA,Nat.beq_refl,cond_true]
theorem SY (s:State)(n:Nat)(hn:n≤24)(A:Nat→Int)(hok:∀k,k<n→oz s (A k))(hord:∀i j,i<j→j<n→A i<A j) :
  ∃A',tw (mk n A) s=some (mk n A')∧gY A' A 0 n∧sV s A' 0 n:=by
 unfold tw
 have hl:len (mk n A)=(n:Int):=by unfold len;rw[dA]
 rw[hl]
 suffices h:∃A',C6 (mk n A) (n:Int) s=some (mk n A')∧gY A' A 0 n∧sV s A' 0 n by
  obtain⟨A',e,h1,h2⟩:=h
  refine⟨A',?_,h1,h2⟩
  rw[e,Option.bind_some,dA,dA,Nat.beq_refl]
  rfl
 unfold C6
 by_cases h20:n<20
 ·obtain⟨A',e,p1,p2,p3⟩:=Kb s n (by omega) 0 n (Nat.zero_le _) (Nat.le_refl _) A hok (fun i j _ h1 h2=>hord i j h1 h2)
  refine⟨A',?_,p2,p3⟩
  rw[vH,kv]
  simp only[show decide ((20:Int)≤(n:Int))=false from decide_eq_false (by omega),cond_false,cb]
  rw[show rU (mk n A) 0 (n:Int) s=_ from e,Option.bind_some,dA,dA,Nat.beq_refl,cond_true,qU,jr]
  simp only[show decide ((20:Int)<(n:Int))=false from decide_eq_false (by omega),cond_false,cb,dA,Nat.beq_refl,cond_true]
 ·obtain⟨A1,e1,p1,p2,p3⟩:=Kb s n (by omega) 0 20 (Nat.zero_le _) (by omega) A hok (fun i j _ h1 h2=>hord i j h1 (by omega))
  have hok1:∀k,k<n→oz s (A1 k):=fun k hk=>by
   by_cases h:k<20
   ·obtain⟨k',q1,q2,q3⟩:=p2.1 k (Nat.zero_le _) h
    rw[q3];exact hok k' (by omega)
   ·rw[p1 k (by omega)];exact hok k hk
  obtain⟨A2,e2,r1,r2,r3⟩:=Kb s n (by omega) 20 n (by omega) (Nat.le_refl _) A1 hok1 (fun i j h0 h1 h2=>by rw[p1 i (by omega),p1 j (by omega)];exact hord i j h1 h2)
  have hok2:∀k,k<n→oz s (A2 k):=fun k hk=>by
   by_cases h:20≤k
   ·obtain⟨k',q1,q2,q3⟩:=r2.1 k h hk
    rw[q3];exact hok1 k' (by omega)
   ·rw[r1 k (by omega)];exact hok1 k hk
  have s2:gY A2 A 0 n:=(r2.widen r1 (Nat.zero_le _) (Nat.le_refl _)).trans (p2.widen p1 (Nat.le_refl _) (by omega))
  have hla:ut (mk n A) (n:Int) s (0,20,mk n A)=some (.inr ((n:Int),20,mk n A1)):=by
   rw[vH,kv]
   simp only[show decide ((20:Int)≤(n:Int))=true from decide_eq_true (by omega),cond_true]
   rw[show rU (mk n A) 0 20 s=_ from e1,Option.bind_some,dA,dA,Nat.beq_refl,cond_true,vH,kv]
   simp only[show ai ((20:Int)+20)=40 from by decide,show decide ((40:Int)≤(n:Int))=false from decide_eq_false (by omega),cond_false]
  rw[hla,cb]
  simp only[]
  rw[show rU (mk n A1) 20 (n:Int) s=_ from e2,Option.bind_some,dA,dA,Nat.beq_refl,cond_true]
  by_cases h20':n=20
  ·refine⟨A2,?_,s2,fun i j h0 h1 h2=>?_⟩
   ·rw[qU,jr]
    simp only[show decide ((20:Int)<(n:Int))=false from decide_eq_false (by omega),cond_false,cb,dA,Nat.beq_refl,cond_true]
   ·rw[r1 i (by omega),r1 j (by omega)];exact p3 i j h0 h1 (by omega)
  ·obtain⟨A3,e3,t1,t2,t3⟩:=adv s n (by omega) n 0 20 n A2 (by omega) (by omega) (by omega) (Nat.le_refl _) hok2
    (fun i j h0 h1 h2=>by rw[r1 i (by omega),r1 j (by omega)];exact p3 i j h0 h1 h2) r3
    (fun i j h0 h1 h2 h3 _=>by
     obtain⟨i',a1,a2,a3⟩:=p2.1 i (Nat.zero_le _) h1
     obtain⟨j',b1,b2,b3⟩:=r2.1 j h2 h3
     rw[r1 i (by omega),a3,b3,p1 j' (by omega)]
     exact hord i' j' (by omega) b2)
   refine⟨A3,?_,t2.trans s2,t3⟩
   have hlc:∀u7:Int×Int×List Int,u7.1=(n:Int)→uw (mk n A) (n:Int) s u7 (20,mk n A2) (0,ai (2*20),mk n A2)=some (.inr (0,mk n A2)):=fun u7 hu=>by
    rw[RP,nW,hu]
    simp only[show ai ((2:Int)*20)=40 from by decide,show decide ((40:Int)≤(n:Int))=false from decide_eq_false (by omega),cond_false]
   have hlb:uu (mk n A) (n:Int) s ((n:Int),20,mk n A1) (20,mk n A2)=some (.inr (mk n A3)):=by
    rw[qU,jr]
    simp only[show decide ((20:Int)<(n:Int))=true from decide_eq_true (by omega),cond_true]
    rw[hlc _ rfl,eG]
    simp only[show ai ((0:Int)+20)=20 from by decide,show decide ((20:Int)<(n:Int))=true from decide_eq_true (by omega),cond_true]
    rw[show JB (mk n A2) 0 20 (n:Int) s=_ from e3,Option.bind_some,dA,dA,Nat.beq_refl,cond_true,eG,qU,jr]
    simp only[show ai ((20:Int)*2)=40 from by decide,show decide ((40:Int)<(n:Int))=false from decide_eq_false (by omega),cond_false]
   rw[hlb,cb,dA,dA,Nat.beq_refl]
   rfl
end Sy
namespace Sy
theorem abY (l:List Int):mk l.length (fun k=>(l[k]?).getD 0)=l:=by
 apply List.ext_getElem?
 intro k
 by_cases h:k<l.length
 ·rw[vh h,List.getElem?_eq_getElem h];rfl
 ·rw[List.getElem?_eq_none (by rw[dA];omega),List.getElem?_eq_none (by omega)]
theorem adf {s:State}{n:Nat}{A:Nat→Int}(h:sV s A 0 n):(mk n A).Pairwise (T s):=by
 rw[List.pairwise_iff_getElem]
 intro i j hi hj hij
 rw[dA] at hi hj
 have e1:(mk n A)[i]=A i:=Option.some.inj (by rw[←List.getElem?_eq_getElem,vh hi])
 have e2:(mk n A)[j]=A j:=Option.some.inj (by rw[←List.getElem?_eq_getElem,vh hj])
 rw[e1,e2]
 exact h i j (Nat.zero_le _) hij hj
theorem aaX {n:Nat}{A B:Nat→Int}(h:gY A B 0 n){x:Int}:x∈mk n A↔x∈mk n B:=by
 rw[Xz,Xz]
 constructor
 ·rintro⟨k,hk,rfl⟩
  obtain⟨k',_,h2,h3⟩:=h.1 k (Nat.zero_le _) hk
  exact⟨k',h2,h3.symm⟩
 ·rintro⟨k,hk,rfl⟩
  obtain⟨k',_,h2,h3⟩:=h.2 k (Nat.zero_le _) hk
  exact⟨k',h2,h3.symm⟩
theorem WS {s:State}:∀{a b:List Int},a.Pairwise (T s)→b.Pairwise (T s)→(∀x,x∈a↔x∈b)→a=b
 | [],[],_,_,_=>rfl
 | [],y::b,_,_,h=>by have:=(h y).2 (by simp);simp at this
 | x::a,[],_,_,h=>by have:=(h x).1 (by simp);simp at this
 | x::a,y::b,ha,hb,h=>by
  rw[List.pairwise_cons] at ha hb
  have hxy:x=y:=by
   rcases List.mem_cons.1 ((h x).1 (by simp)) with h1 | h1
   ·exact h1
   ·rcases List.mem_cons.1 ((h y).2 (by simp)) with h2 | h2
    ·exact h2.symm
    ·exact ((ha.1 y h2).trans (hb.1 x h1)).irrefl.elim
  subst hxy
  rw[WS ha.2 hb.2 fun z=>?_]
  constructor
  ·intro hz
   rcases List.mem_cons.1 ((h z).1 (List.mem_cons_of_mem _ hz)) with h1 | h1
   ·subst h1;exact (ha.1 z hz).irrefl.elim
   ·exact h1
  ·intro hz
   rcases List.mem_cons.1 ((h z).2 (List.mem_cons_of_mem _ hz)) with h1 | h1
   ·subst h1;exact (hb.1 z hz).irrefl.elim
   ·exact h1
theorem aa0 (s : State)(l : List Int)(hn : l.length ≤ 24)(hok : ∀ x ∈ l,oz s x)(hord : l.Pairwise (· < ·)) : ∃ r,tw l s=some r ∧ r.length=l.length ∧ r.Pairwise (T s) ∧ ∀ x,x ∈ r ↔ x ∈ l:=by
  obtain ⟨A',e,h1,h2⟩:=SY s l.length hn (fun k=>(l[k]?).getD 0)
    (fun k hk=>by rw [List.getElem?_eq_getElem hk]; exact hok _ (List.getElem_mem hk))
    (fun i j hij hj=>by rw [List.getElem?_eq_getElem hj,List.getElem?_eq_getElem (by omega)]; exact List.pairwise_iff_getElem.1 hord i j (by omega) hj hij)
  rw [abY] at e
  refine ⟨_,e,dA,adf h2,fun x=>?_⟩
  rw [aaX h1,abY]
theorem Lc (s:State)(l:List Int)(k:Int)(hl:l.length≤1000)(hok:∀x∈l,oz s x)(hk:oz s k):∀i,i≤l.length→(∀j (hj:j<l.length),i≤j→eB s k<eB s l[j])→∃i',i'≤l.length∧py s l k (i:Int)=some (.inr (i':Int))∧(∀j (hj:j<l.length),i'≤j→eB s k<eB s l[j])∧(∀h:0<i',∃h2:i' - 1<l.length,¬eB s k<eB s l[i' - 1])
 | 0,_,h=>by
  refine⟨0,Nat.zero_le _,?_,h,fun h=>absurd h (Nat.lt_irrefl _)⟩
  rw[GQ,lV]
  rfl
 | i+1,hi,h=>by
  have hi1:i<l.length:=by omega
  have ho:=hok _ (List.getElem_mem hi1)
  have hst:py s l k ((i+1:Nat):Int)=bif decide (eB s k<eB s l[i]) then py s l k (i:Int) else some (.inr ((i+1:Nat):Int)):=by
   rw[GQ,lV]
   unfold eB
   unfold oz at ho hk
   cases h1:aI s.Duties l[i] with
   | none=>rw[h1] at ho;cases ho
   | some d=>
    cases h2:aI s.Duties k with
    | none=>rw[h2] at hk;cases hk
    | some e=>
     simp only[show decide (((i+1:Nat):Int)>0)=true from decide_eq_true (by omega),cond_true,pV (show 1≤i+1 by omega) (show i+1≤1000000000 by omega),Nat.add_sub_cancel,ch,List.getElem?_eq_getElem hi1,Option.bind_some,h1,h2,eG]
  rw[hst]
  cases hd:decide (eB s k<eB s l[i]) with
  | false=>
   rw[decide_eq_false_iff_not] at hd
   exact⟨i+1,hi,rfl,h,fun _=>⟨hi1,hd⟩⟩
  | true=>
   rw[decide_eq_true_eq] at hd
   refine Lc s l k hl hok hk i (by omega) fun j hj hij=>?_
   rcases Nat.lt_or_eq_of_le hij with h3 | rfl
   ·exact h j hj h3
   ·exact hd
theorem X0 {l:List Int}{i:Nat}(h:i≤l.length):jk l (i:Int) (len l)=some (l.drop i):=by
 unfold jk len
 rw[if_pos (by omega)]
 congr 1
 rw[Int.toNat_natCast,Int.toNat_natCast,List.take_of_length_le (by rw[List.length_drop];exact Nat.le_refl _)]
theorem DR {b:Nat}{xs ys:List Int}(h:(xs.length+ys.length)*b≤1099511627776)(h2:xs.length+ys.length≤1099511627776):iC b xs ys=some (xs++ys):=by
 unfold iC
 rw[if_pos ⟨h,h2⟩]
theorem aaU (s:State)(l:List Int)(k:Int)(hl:l.length≤1000)(hok:∀x∈l,oz s x∧x<k)(hk:oz s k)(hs:l.Pairwise (T s)):∃r,vJ s l k=some r∧r.Pairwise (T s)∧(∀x,x∈r↔x∈l∨x=k)∧r.length=l.length+1:=by
 obtain⟨i,i1,i2,i3,i4⟩:=Lc s l k hl (fun x hx=>(hok x hx).1) hk l.length (Nat.le_refl _) (fun j hj h=>by omega)
 unfold vJ
 rw[show len l=((l.length:Nat):Int) from rfl,i2,cb]
 have l1:=List.length_take (i:=i) (l:=l)
 have l2:=List.length_drop (i:=i) (l:=l)
 have s1:jk l 0 (i:Int)=some (l.take i):=by
  unfold jk
  rw[if_pos (by omega)]
  congr 1
 rw[s1,Option.bind_some,DR (by simp only[List.length_nil];omega) (by simp only[List.length_nil];omega),Option.bind_some,DR (by simp only[List.length_append,List.length_nil,List.length_cons];omega) (by simp only[List.length_append,List.length_nil,List.length_cons];omega),Option.bind_some,show (((l.length:Nat):Int))=len l from rfl,X0 i1,Option.bind_some,DR (by simp only[List.length_append,List.length_nil,List.length_cons];omega) (by simp only[List.length_append,List.length_nil,List.length_cons];omega)]
 have hlow:∀x∈l.take i,T s x k:=fun x hx=>by
  obtain⟨j,hj,rfl⟩:=List.mem_iff_getElem.1 hx
  rw[l1] at hj
  rw[List.getElem_take]
  obtain⟨h2,h3⟩:=i4 (by omega)
  have h4:eB s l[j]≤eB s l[i - 1]:=by
   rcases Nat.lt_or_eq_of_le (show j≤i - 1 by omega) with h | h
   ·exact (List.pairwise_iff_getElem.1 hs j (i - 1) (by omega) h2 h).le
   ·subst h;exact Int.le_refl _
  by_cases h5:eB s l[j]=eB s k
  ·exact .inr ⟨h5,(hok _ (List.getElem_mem (by omega))).2⟩
  ·exact .inl (by omega)
 have hhigh:∀x∈l.drop i,T s k x:=fun x hx=>by
  obtain⟨j,hj,rfl⟩:=List.mem_iff_getElem.1 hx
  rw[l2] at hj
  rw[List.getElem_drop]
  exact .inl (i3 (i+j) (by omega) (by omega))
 refine⟨_,rfl,?_,fun x=>?_,?_⟩
 ·simp only[List.nil_append]
  rw[List.pairwise_append,List.pairwise_append]
  refine⟨⟨hs.sublist (List.take_sublist _ _),by simp,fun x hx y hy=>?_⟩,hs.sublist (List.drop_sublist _ _),fun x hx y hy=>?_⟩
  ·rw[List.mem_singleton] at hy;subst hy;exact hlow x hx
  ·rcases List.mem_append.1 hx with h | h
   ·exact (hlow x h).trans (hhigh y hy)
   ·rw[List.mem_singleton] at h;subst h;exact hhigh y hy
 ·simp only[List.nil_append,List.mem_append,List.mem_singleton]
  have:x∈l↔x∈l.take i∨x∈l.drop i:=by rw[←List.mem_append,List.take_append_drop]
  rw[this]
  constructor
  ·rintro ((h | h) | h)
   ·exact .inl (.inl h)
   ·exact .inr h
   ·exact .inl (.inr h)
  ·rintro ((h | h) | h)
   ·exact .inl (.inl h)
   ·exact .inr h
   ·exact .inl (.inr h)
 ·simp only[List.length_append,List.length_nil,List.length_cons];omega
def openB (c:Contract)(s:State)(fr to:Int)(k:Nat):Bool:=match s.Duties[k]? with
 | some d=>(match aI c.Clauses d.Clause with
  | some e=>(d.Status==1)&&((decide (fr<0)||(e.Party==fr))&&(decide (to<0)||(e.Other==to)))
  | none=>false)
 | none=>false
theorem OC {s:State}{k:Nat}(h:k<s.Duties.length):oz s (k:Int):=by unfold oz;rw[ch,List.getElem?_eq_getElem h];rfl
theorem spec_open (c:Contract)(s:State)(fr to:Int)(hd:s.Duties.length≤24)(hcl:∀k (h:k<s.Duties.length),∃e,aI c.Clauses s.Duties[k].Clause=some e) :
  ∃r,xF c s fr to=some r∧r.Pairwise (T s)∧(∀x,x∈r↔∃i,i<s.Duties.length∧openB c s fr to i=true∧x=(i:Int))∧r.length≤24:=by
 obtain⟨y,⟨r,rfl,r1,r2,r3⟩,h⟩:=iZ (L:=fun i (l:List Int)=>li c s fr to ((i:Int),l)) s.Duties.length
  (fun n l=>l.Pairwise (T s)∧(∀x,x∈l↔∃i,i<n∧openB c s fr to i=true∧x=(i:Int))∧l.length≤n)
  (fun y=>∃r,y=.inr r∧r.Pairwise (T s)∧(∀x,x∈r↔∃i,i<s.Duties.length∧openB c s fr to i=true∧x=(i:Int))∧r.length≤24) (s:=[])
  (by
   rintro n l hn ⟨j1,j2,j3⟩
   have he:=List.getElem?_eq_getElem hn
   obtain⟨e,hce⟩:=hcl n hn
   have hst:li c s fr to ((n:Int),l)=bif openB c s fr to n then (vJ s l (n:Int)).bind fun r=>li c s fr to (((n+1:Nat):Int),r) else li c s fr to (((n+1:Nat):Int),l):=by
    rw[GJ,lU]
    simp only[ce,decide_eq_true hn,cond_true,ch,he,Option.bind_some,hce,ed,dm (show n<9223372036854775807 by omega),openB]
    cases s.Duties[n].Status==1<;>cases decide (fr<0)<;>cases e.Party==fr<;>cases decide (to<0)<;>cases e.Other==to<;>simp[cf]<;>cases vJ s l (n:Int)<;>rfl
   cases hb:openB c s fr to n with
   | false=>
    refine .inl ⟨l,⟨j1,fun x=>?_,by omega⟩,by rw[hst,hb];rfl⟩
    rw[j2]
    constructor
    ·rintro⟨i,h1,h2⟩;exact⟨i,by omega,h2⟩
    ·rintro⟨i,h1,h2,h3⟩
     rcases Nat.lt_or_eq_of_le (Nat.le_of_lt_succ h1) with h4 | rfl
     ·exact⟨i,h4,h2,h3⟩
     ·rw[hb] at h2;cases h2
   | true=>
    obtain⟨r,e1,r1,r2,r3⟩:=aaU s l (n:Int) (by omega) (fun x hx=>by
     obtain⟨i,h1,h2,rfl⟩:=(j2 x).1 hx
     exact⟨OC (by omega),by omega⟩) (OC hn) j1
    refine .inl ⟨r,⟨r1,fun x=>?_,by omega⟩,by rw[hst,hb,cond_true,e1];rfl⟩
    rw[r2,j2]
    constructor
    ·rintro (⟨i,h1,h2⟩ | rfl)
     ·exact⟨i,by omega,h2⟩
     ·exact⟨n,by omega,hb,rfl⟩
    ·rintro⟨i,h1,h2,h3⟩
     rcases Nat.lt_or_eq_of_le (Nat.le_of_lt_succ h1) with h4 | rfl
     ·exact .inl ⟨i,h4,h2,h3⟩
     ·exact .inr h3)
  (by
   rintro l ⟨j1,j2,j3⟩
   refine⟨.inr l,⟨l,rfl,j1,j2,by omega⟩,?_⟩
   show li c s fr to ((s.Duties.length:Int),l)=_
   rw[GJ,lU]
   simp only[ce,decide_eq_false (Nat.lt_irrefl _),cond_false]) ⟨List.Pairwise.nil,fun x=>by simp,by simp⟩
 refine⟨r,?_,r1,r2,r3⟩
 unfold xF
 rw[show li c s fr to (0,[])=_ from h]
 rfl
theorem K8 (p : Nat→Bool) : ∀ n,(jE p n).Pairwise (· < ·) ∧ ∀ x ∈ jE p n,∃ i,i < n ∧ p i=true ∧ x=(i : Int)
  | 0=>⟨List.Pairwise.nil,fun x hx=>by simp [jE] at hx⟩
  | n + 1=>by
    obtain ⟨h1,h2⟩:=K8 p n
    rw [jE]
    have hm : ∀ x ∈ (bif p n then [(n : Int)] else []),x=(n : Int) ∧ p n=true:=fun x hx=>by
      cases hp : p n with
      | true=>rw [hp,cond_true,List.mem_singleton] at hx; exact ⟨hx,rfl⟩
      | false=>rw [hp] at hx; simp at hx
    refine ⟨?_,fun x hx=>?_⟩
    · rw [List.pairwise_append]
      refine ⟨h1,by cases p n <;> simp,fun x hx y hy=>?_⟩
      obtain ⟨i,q1,_,rfl⟩:=h2 x hx
      rw [(hm y hy).1]
      omega
    · rcases List.mem_append.1 hx with h | h
      · obtain ⟨i,q1,q2,q3⟩:=h2 x h
        exact ⟨i,by omega,q2,q3⟩
      · exact ⟨n,by omega,(hm x h).2,(hm x h).1⟩
theorem K9 (p:Nat→Bool):∀{n i:Nat},i<n→p i=true→(i:Int)∈jE p n
 | n+1,i,h,hp=>by
  rw[jE,List.mem_append]
  rcases Nat.lt_or_eq_of_le (Nat.le_of_lt_succ h) with h1 | rfl
  ·exact .inl (K9 p h1 hp)
  ·exact .inr (by rw[hp];simp)
theorem open_two (c:Contract)(s:State)(fr to:Int)(p:Nat→Bool)(hd:s.Duties.length≤24){r:List Int}(r1:r.Pairwise (T s))(r2:∀x,x∈r↔∃i,i<s.Duties.length∧openB c s fr to i=true∧x=(i:Int))(hp:∀i,i<s.Duties.length→p i=openB c s fr to i) :
  tw (jE p s.Duties.length) s=some r∧r.length=(jE p s.Duties.length).length:=by
 obtain⟨a1,a2⟩:=K8 p s.Duties.length
 have a3:=yV p s.Duties.length
 obtain⟨r',e,q1,q2,q3⟩:=aa0 s (jE p s.Duties.length) (by omega) (fun x hx=>by
  obtain⟨i,h1,_,rfl⟩:=a2 x hx
  exact OC h1) a1
 have:r'=r:=WS q2 r1 fun x=>by
  rw[q3,r2]
  constructor
  ·intro hx
   obtain⟨i,h1,h2,h3⟩:=a2 x hx
   exact⟨i,h1,by rw[←hp i h1];exact h2,h3⟩
  ·rintro⟨i,h1,h2,rfl⟩
   exact K9 p h1 (by rw[hp i h1];exact h2)
 subst this
 exact⟨e,q1⟩
end Sy
theorem lq {c:Contract}{s:State}{names:List ac}(f:StF c s names)(k:Nat)(h:k<s.Duties.length):∃e,aI c.Clauses s.Duties[k].Clause=some e:=by
 have h1:=f.dut k h
 unfold qh at h1
 rw[List.getElem?_eq_getElem h] at h1
 simp only[Bool.and_eq_true] at h1
 have h2:=h1.1
 unfold wa at h2
 cases hg:aI c.Clauses s.Duties[k].Clause with
 | none=>rw[hg] at h2;cases h2
 | some e=>exact⟨e,rfl⟩
theorem abd (c:Contract)(s:State)(ps:List Int)(hc:fA c)(hs:mp s)(hp:ps.length≤1000):∃b,sf c s=some b∧BR c s ps=some (b&&ps.all (fun p=>eJ p 0 (ai (len c.Parties - 1))))∧(b=true→kX c=true∧∃names,pB c=some names∧yi c=some names∧StF c s names):=by
 obtain⟨b,g1,g2,g3⟩:=agv c s hc hs
 refine⟨b,g1,?_,g3⟩
 unfold BR
 rw[g2,Option.bind_some]
 cases b with
 | false=>rfl
 | true=>
  unfold Js Jy
  rw[cond_true,yy (mI (L:=um ps c) (a:=ps) (p:=fun x=>BT x c) (q:=fun p=>!eJ p 0 (ai (len c.Parties - 1))) (fun x _=>by rw[BT,lu];rfl) (fun x=>by rw[RL,nS]) (by omega))]
  have ha:(ps.any fun p=>!eJ p 0 (ai (len c.Parties - 1)))=!(ps.all fun p=>eJ p 0 (ai (len c.Parties - 1))):=by rw[List.not_all_eq_any_not]
  rw[ha,Option.bind_some,Bool.not_not,Bool.true_and]
  rfl
theorem XJ (c:Contract)(s:State)(p:Int){b:Bool}(h:sf c s=some b):De c s p=some (b&&eJ p 0 (ai (len c.Parties - 1))):=by
 unfold De
 rw[h,Option.bind_some]
 cases b with
 | false=>rfl
 | true=>rw[cond_true,mR];rfl
theorem iW {a b:ac}(h:a.length+b.length≤9223372036854775807):fX a b=some (a++b):=by unfold fX;rw[if_pos h]
theorem Qk (n:Nat)(h:n<10000000000000000000):Lib.nDigits n≤20:=by
 have:=Lib.nDigits_le20 n (by omega)
 exact this
theorem pL (n:Nat)(h:n<10000000000000000000):(Lib.decDigits n).length≤20:=by
 rw[Lib.decDigits_length]
 exact Qk n h
theorem agx (n:Nat):((n:Int).tdiv 10)=((n / 10:Nat):Int):=by rw[Int.tdiv_eq_ediv_of_nonneg (by omega)];omega
theorem agy (n:Nat):((n:Int).tmod 10)=((n % 10:Nat):Int):=by rw[Int.tmod_eq_emod_of_nonneg (by omega)];omega
theorem DW (n:Nat)(h:n<1000000000000000000):rA (n:Int)=some (Lib.decDigits n):=by
 unfold rA
 rw[show Oo (n:Int)=true by simp only[Oo,Bool.and_eq_true,decide_eq_true_eq];omega,cond_true,Lib.itoa_nonneg]
def Rr (n:Nat):ac:=if n<10 then 48::Lib.decDigits n else Lib.decDigits n
theorem adA (n:Nat)(h:n<1000000000000000000):(Rr n).length≤21:=by
 have:=pL n (by omega)
 unfold Rr
 split
 ·simp only[List.length_cons];omega
 ·omega
theorem acW:∀i:_root_.Fin 10,jk ([48,49,50,51,52,53,54,55,56,57]:ac) (i.val:Int) ((i.val+1:Nat):Int)=some [UInt8.ofNat (48+i.val)]:=by decide
theorem QW (i:Nat)(h:i<10):jk ([48,49,50,51,52,53,54,55,56,57]:ac) (i:Int) ((i+1:Nat):Int)=some [UInt8.ofNat (48+i)]:=acW ⟨i,h⟩
theorem zL (n:Nat)(h:n<1000000000000000000):Dh (n:Int)=some (Lib.decDigits n):=by
 induction n using Nat.strongRecOn with
 | _ n ih=>
  rw[acf]
  unfold uB
  rw[decide_eq_false (by omega),cond_false]
  by_cases h1:n<10
  ·rw[decide_eq_true (by omega),cond_true,dm (by omega),QW n h1,Option.bind_some,Lib.decDigits,dif_pos h1]
  ·rw[decide_eq_false (by omega),cond_false,agx,agy,fu (by omega) (by omega),dm (by omega)]
   have e:=ih (n / 10) (by omega) (by omega)
   have e':aN rV ((n / 10:Nat):Int)=some (Lib.decDigits (n / 10)):=e
   rw[e',Option.bind_some,QW (n % 10) (by omega),Option.bind_some,iW (by have:=pL (n / 10) (by omega);simp only[List.length_singleton];omega),Option.bind_some]
   conv=>rhs;rw[Lib.decDigits,dif_neg h1]
theorem OH (n d:Int)(s:ac)(h:d≤(s.length:Int)):tT n d s=some (.inr s):=by
 rw[EI,lL]
 rw[decide_eq_false (by simp only[len];omega),cond_false]
theorem aaH (n:Nat)(h:n<100):B0 (n:Int) 2=some (Rr n):=by
 unfold B0 Rr
 rw[DW n (by omega),Option.bind_some]
 by_cases h1:n<10
 ·have hl:(Lib.decDigits n).length=1:=by rw[Lib.decDigits_length,Lib.nDigits_small h1]
  rw[EI,lL]
  rw[decide_eq_true (by simp only[len];omega),cond_true,iW (by simp only[List.length_singleton];omega),Option.bind_some,OH _ _ _ (by simp only[List.singleton_append,List.length_cons];omega),if_pos h1]
  rfl
 ·have hl:(Lib.decDigits n).length=2:=by rw[Lib.decDigits_length];exact Lib.nDigits_unique 1 n (by omega) (by omega)
  rw[OH _ _ _ (by omega),if_neg h1]
  rfl
theorem vY (x:Int)(h : -1000000000000≤x)(h2:x≤1000000000000):∃t:ac,vL x=some t∧H3 x=some t∧t.length≤200:=by
 obtain⟨n,σ,hn,hσ,a1,a2,a3⟩:∃(n:Nat) (σ:ac),n≤1000000000000∧σ.length≤1∧(bif decide (x<0) then (((ai (0 - x)),([45]:ac))) else ((x,([]:ac))))=((n:Int),σ)∧(bif decide (x<0) then (([45]:ac)) else (([]:ac)))=σ∧jB x=some (n:Int):=by
  by_cases hx:x<0
  ·refine⟨x.natAbs,[45],by omega,by decide,?_,?_,?_⟩
   ·rw[decide_eq_true hx,cond_true,fu (by omega) (by omega),show 0 - x=(x.natAbs:Int) by omega]
   ·rw[decide_eq_true hx,cond_true]
   ·unfold jB
    rw[fu (by omega) (by omega),if_pos (by omega),show 0 - x=(x.natAbs:Int) by omega]
  ·refine⟨x.toNat,[],by omega,by decide,?_,?_,?_⟩
   ·rw[decide_eq_false hx,cond_false,show x=(x.toNat:Int) by omega]
    rfl
   ·rw[decide_eq_false hx,cond_false]
   ·unfold jB
    rw[fu (by omega) (by omega)]
    have:(if 0 - x>x then 0 - x else x)=(x.toNat:Int):=by split<;>omega
    rw[this]
 have e1:((n:Int).tdiv 100)=((n / 100:Nat):Int):=by rw[Int.tdiv_eq_ediv_of_nonneg (by omega)];omega
 have e2:((n:Int).tmod 100)=((n % 100:Nat):Int):=by rw[Int.tmod_eq_emod_of_nonneg (by omega)];omega
 have l1:=pL (n / 100) (by omega)
 have l2:=adA (n % 100) (by omega)
 have l3:=pL (n % 100) (by omega)
 refine⟨σ++Lib.decDigits (n / 100)++[46]++Rr (n % 100),?_,?_,by simp only[List.length_append,List.length_singleton];omega⟩
 ·unfold vL
  rw[a1,ed]
  simp only[e1,e2]
  rw[fu (by omega) (by omega),zL (n / 100) (by omega),zL (n % 100) (by omega)]
  simp only[Option.bind_some]
  rw[iW (by omega),Option.bind_some,iW (by simp only[List.length_append,List.length_cons,List.length_nil];omega),Option.bind_some]
  unfold Rr
  by_cases h1:n % 100<10
  ·rw[decide_eq_true (by omega),cond_true,iW (by simp only[List.length_append,List.length_cons,List.length_nil];omega),Option.bind_some,cb,iW (by simp only[List.length_append,List.length_cons,List.length_nil];omega),if_pos h1]
   simp
  ·rw[decide_eq_false (by omega),cond_false,cb,iW (by simp only[List.length_append,List.length_cons,List.length_nil];omega),if_neg h1]
   simp
 ·unfold H3
  rw[a2,ed]
  simp only[a3,Option.bind_some,e1,e2]
  rw[fu (by omega) (by omega),DW (n / 100) (by omega),aaH (n % 100) (by omega)]
  simp only[Option.bind_some]
  rw[iW (by omega),Option.bind_some,iW (by simp only[List.length_append,List.length_cons,List.length_nil];omega),Option.bind_some,iW (by simp only[List.length_append,List.length_cons,List.length_nil];omega)]
  simp
theorem af3 {c:Contract}(h:kX c=true){i:Int}{e:Clause}(he:aI c.Clauses i=some e):0≤e.Amount∧e.Amount≤1000000:=by
 unfold aI at he
 split at he
 ·have h1:=((yC h).2.2.2 _ e he).2
  simp only[kg,Bool.and_eq_true,lw] at h1
  exact h1.2.2.2.2.2.2.2.1
 ·cases he
theorem Il (c:Contract)(s:State)(r:List Int)(hr:r.length≤24)(hcl:∀k (h:k<s.Duties.length),∃e,aI c.Clauses s.Duties[k].Clause=some e)(hb:kX c=true)(hm:∀x∈r,∃i,i<s.Duties.length∧x=(i:Int)):∃v,xE c s r=some v∧KG c s r=some v∧0≤v∧v≤24000000:=by
 have h:∃v,lh c s r (0,0)=some (.inr v)∧0≤v∧v≤24000000:=by
  obtain⟨y,⟨v,rfl,v1,v2⟩,h⟩:=iZ (L:=fun k (n:Int)=>lh c s r (n,(k:Int))) r.length (fun k n=>0≤n∧n≤1000000*(k:Int)) (fun y=>∃v,y=.inr v∧0≤v∧v≤24000000) (s:=0)
   (by
    rintro k n hk ⟨j1,j2⟩
    obtain⟨i,hi,hx⟩:=hm r[k] (List.getElem_mem hk)
    obtain⟨e,he⟩:=hcl i hi
    obtain⟨b1,b2⟩:=af3 hb he
    refine .inl ⟨n+e.Amount,⟨by omega,by omega⟩,?_⟩
    show lh c s r (_,(k:Int))=lh c s r (_,((k+1:Nat):Int))
    rw[GF,lT]
    simp only[ce,decide_eq_true hk,cond_true,ch,List.getElem?_eq_getElem hk,Option.bind_some,hx,List.getElem?_eq_getElem hi,he]
    rw[show ai ((k:Int)+1)=((k+1:Nat):Int) from dm (by omega),fu (by omega) (by omega)])
   (by
    rintro n ⟨j1,j2⟩
    refine⟨.inr n,⟨n,rfl,j1,by omega⟩,?_⟩
    show lh c s r (_,(r.length:Int))=_
    rw[GF,lT]
    simp only[ce,decide_eq_false (Nat.lt_irrefl _),cond_false]) ⟨by omega,by omega⟩
  exact⟨v,h,v1,v2⟩
 obtain⟨v,h,v1,v2⟩:=h
 refine⟨v,?_,?_,v1,v2⟩
 ·unfold xE;rw[h];rfl
 ·unfold KG;rw[show NK c s r (0,0)=lh c s r (0,0) from rfl,h];rfl
theorem W8 (c:Contract)(s:State)(p:Int){names:List ac}(f:StF c s names)(hp:0≤p){r:List Int}(r1:r.Pairwise (Sy.T s))(r2:∀x,x∈r↔∃i,i<s.Duties.length∧Sy.openB c s p (-1) i=true∧x=(i:Int)):NO c s p=some r:=by
 have hd:=f.dl
 have e1:=OJ (L:=fun i out=>qt c s p ((i:Int),out)) s.Duties.length (by omega) (Sy.openB c s p (-1))
  (by
   intro i out hi ho
   have he:=List.getElem?_eq_getElem hi
   obtain⟨e,hc⟩:=lq f i hi
   show qt c s p ((i:Int),out)=_
   rw[KK,nu]
   unfold QR
   simp only[ce,decide_eq_true hi,cond_true,ch,he,hc,Option.bind_some,ed,Sy.openB,dm (show i<9223372036854775807 by omega)]
   rw[decide_eq_false (show ¬p<0 by omega)]
   simp only[show decide ((-1:Int)<0)=true from rfl,Bool.false_or,Bool.true_or,Bool.and_true,Bool.true_and]
   cases s.Duties[i].Status==1<;>cases e.Party==p<;>simp[cf]<;>cases iC 8 out [(i:Int)]<;>rfl)
  (by
   intro out
   show qt c s p ((s.Duties.length:Int),out)=_
   rw[KK,nu]
   simp only[ce,decide_eq_false (Nat.lt_irrefl _),cond_false])
 obtain⟨q1,q2⟩:=Sy.open_two c s p (-1) (Sy.openB c s p (-1)) hd r1 r2 (fun _ _=>rfl)
 unfold NO
 rw[show qt c s p (0,[])=_ from e1,cb,q1,Option.bind_some,q2,Nat.beq_refl]
 rfl
theorem W5 (c:Contract)(s:State)(p:Int){names:List ac}(f:StF c s names)(hp:0≤p){r:List Int}(r1:r.Pairwise (Sy.T s))(r2:∀x,x∈r↔∃i,i<s.Duties.length∧Sy.openB c s (-1) p i=true∧x=(i:Int)):NN c s p=some r:=by
 have hd:=f.dl
 have e1:=OJ (L:=fun i out=>qs c s p ((i:Int),out)) s.Duties.length (by omega) (Sy.openB c s (-1) p)
  (by
   intro i out hi ho
   have he:=List.getElem?_eq_getElem hi
   obtain⟨e,hc⟩:=lq f i hi
   show qs c s p ((i:Int),out)=_
   rw[KJ,nt]
   unfold QO
   simp only[ce,decide_eq_true hi,cond_true,ch,he,hc,Option.bind_some,ed,Sy.openB,dm (show i<9223372036854775807 by omega)]
   rw[decide_eq_false (show ¬p<0 by omega)]
   simp only[show decide ((-1:Int)<0)=true from rfl,Bool.false_or,Bool.true_or,Bool.and_true,Bool.true_and]
   cases s.Duties[i].Status==1<;>cases e.Other==p<;>simp[cf]<;>cases iC 8 out [(i:Int)]<;>rfl)
  (by
   intro out
   show qs c s p ((s.Duties.length:Int),out)=_
   rw[KJ,nt]
   simp only[ce,decide_eq_false (Nat.lt_irrefl _),cond_false])
 obtain⟨q1,q2⟩:=Sy.open_two c s (-1) p (Sy.openB c s (-1) p) hd r1 r2 (fun _ _=>rfl)
 unfold NN
 rw[show qs c s p (0,[])=_ from e1,cb,q1,Option.bind_some,q2,Nat.beq_refl]
 rfl
theorem Re (c:Contract)(s:State)(r:List Int)(hr:r.length≤24){v:Int}{t:ac}(h1:KG c s r=some v)(h2:H3 v=some t)(h3:t.length≤200):KE r c s=some (Lib.decDigits r.length++[32,40]++t++[41]):=by
 have l1:=pL r.length (by omega)
 unfold KE QP
 rw[show len r=(r.length:Int) from rfl,DW r.length (by omega)]
 simp only[Option.bind_some,h1,h2]
 rw[iW (by simp only[List.length_append,List.length_cons,List.length_nil];omega),Option.bind_some,iW (by simp only[List.length_append,List.length_cons,List.length_nil];omega),Option.bind_some,iW (by simp only[List.length_append,List.length_cons,List.length_nil];omega),Option.bind_some]
theorem agp (c:Contract)(s:State)(p:Int)(hc:fA c)(hs:mp s):∃r,Da c s p=some r∧NI c s p=some r:=by
 obtain⟨b,g1,g2,g3⟩:=abd c s [p] hc hs (by simp)
 unfold Da NI
 rw[XJ c s p g1,g2]
 cases b with
 | false=>exact⟨_,rfl,rfl⟩
 | true=>
  obtain⟨h,names,n1,n2,f⟩:=g3 rfl
  simp only[List.all_cons,List.all_nil,Bool.and_true,Bool.true_and,Option.bind_some]
  cases hf:eJ p 0 (ai (len c.Parties - 1)) with
  | false=>exact⟨_,rfl,rfl⟩
  | true=>
   obtain⟨r,e,r1,r2,r3⟩:=Sy.spec_open c s p (-1) f.dl (lq f)
   obtain⟨q,e',q1,q2,q3⟩:=Sy.spec_open c s (-1) p f.dl (lq f)
   rw[lw] at hf
   have hpl:c.Parties.length≤1048576:=hc.1.1
   rw[show ai (len c.Parties - 1)=(c.Parties.length:Int) - 1 from fu (by unfold len;omega) (by unfold len;omega)] at hf
   obtain⟨k,rfl⟩:∃k:Nat,p=k:=⟨p.toNat,by omega⟩
   have hk:k<c.Parties.length:=by omega
   have hk2:k<s.Balances.length:=by rw[f.bl];exact hk
   have hn:(c.Parties[k]).length≤1048576:=hc.1.2 _ (List.getElem_mem hk)
   have hb:=List.all_eq_true.1 f.amt _ (List.getElem_mem hk2)
   rw[tz,lw] at hb
   obtain⟨v,v1,v2,v3,v4⟩:=Il c s r r3 (lq f) h (fun x hx=>by
    obtain⟨i,h1,_,h3⟩:=(r2 x).1 hx
    exact⟨i,h1,h3⟩)
   obtain⟨u,u1,u2,u3,u4⟩:=Il c s q q3 (lq f) h (fun x hx=>by
    obtain⟨i,h1,_,h3⟩:=(q2 x).1 hx
    exact⟨i,h1,h3⟩)
   obtain⟨t1,x1,x2,x3⟩:=vY v (by omega) (by omega)
   obtain⟨t2,y1,y2,y3⟩:=vY u (by omega) (by omega)
   obtain⟨t3,z1,z2,z3⟩:=vY s.Balances[k] (by omega) (by omega)
   have d1:=pL r.length (by omega)
   have d2:=pL q.length (by omega)
   unfold QQ QN
   simp only[Bool.not_true,cond_false,e,e',W8 c s k f (by omega) r1 r2,W5 c s k f (by omega) q1 q2,Option.bind_some,ch,List.getElem?_eq_getElem hk,List.getElem?_eq_getElem hk2,Re c s r r3 v2 x2 x3,Re c s q q3 u2 y2 y3,v1,u1,x1,y1,z1,z2]
   rw[show len r=(r.length:Int) from rfl,show len q=(q.length:Int) from rfl,zL r.length (by omega),zL q.length (by omega)]
   simp only[Option.bind_some]
   refine⟨(c.Parties[k]++[58,32,111,119,101,115,32]++(Lib.decDigits r.length++[32,40]++t1++[41])++[44,32,99,108,97,105,109,115,32]++(Lib.decDigits q.length++[32,40]++t2++[41])++[44,32,98,97,108,97,110,99,101,32]++t3,true),?_,?_⟩
   ·iterate 10 rw[iW (by simp only[List.length_append,List.length_cons,List.length_nil];omega),Option.bind_some]
    simp only[List.append_assoc,List.cons_append,List.nil_append]
   ·iterate 6 rw[iW (by simp only[List.length_append,List.length_cons,List.length_nil];omega),Option.bind_some]
theorem tD (c:Contract)(hc:YY c)(s:State)(hs:D4 s)(p:Int)(hp:oP p):fe c s p=some true:=by
 unfold fe
 obtain⟨r1,e1,q1⟩:=Qt c hc (l:=1048576) (by decide) (by decide)
 rw[e1,Option.bind_some]
 rcases q1 with q1 | ⟨q1,p1,s1⟩
 ·rw[decide_eq_true q1,cond_true]
 rw[decide_eq_false (by omega),cond_false]
 obtain⟨r2,e2,q2⟩:=aa6 s hs (l:=r1) (by omega) (by omega)
 rw[e2,Option.bind_some]
 rcases q2 with q2 | ⟨q2,p2,s2⟩
 ·rw[decide_eq_true q2,cond_true]
 rw[decide_eq_false (by omega),cond_false]
 obtain⟨r,g1,g2⟩:=agp c s p s1 s2
 simp only[Qu c s1,aa8 s s2,Option.bind_some,g1,g2,Qe c s1,aav s s2,beq_self_eq_true,bne_self_eq_false,Bool.not_true,ed,cond_false]
end Go.Ln
