/-
  The plain law: the plain functions answer true.
-/
import Derived.Test.YtniljljgdoncpaaGreatDoorFnExactEndlessRepairsLib
import Derived.Sort.AssemblyPlain
import Derived.Sort.LotD4
import Derived.Sort.LotD5
set_option linter.unusedVariables false
set_option linter.unusedSimpArgs false
set_option maxRecDepth 100000
namespace Go.Ln
open Go
theorem appI_one {α:Type}{b:Nat}{xs:List α}{y:α}(h:(xs.length+1)*b≤1099511627776)(h2:xs.length+1≤1099511627776):appI b xs [y]=some (xs++[y]):=by
 unfold appI
 rw[if_pos]
 simp only[List.length_cons,List.length_nil,lim,Nat.zero_add]
 omega
theorem len_le1 {α β:Type}{f:α→List β}(hf:∀x,(f x).length≤1):∀(xs:List α),(xs.flatMap f).length≤xs.length
 | []=>by simp
 | x::xs=>by
  have h1:=hf x
  have h2:=len_le1 hf xs
  rw[List.flatMap_cons,List.length_append,List.length_cons]
  omega
theorem flatMap_filter' {α:Type}{p:α→Bool}:∀(xs:List α),(xs.flatMap fun x=>bif p x then [x] else [])=xs.filter p
 | []=>rfl
 | x::xs=>by
  rw[List.flatMap_cons,flatMap_filter' xs,List.filter_cons]
  cases p x<;>rfl
theorem take_len {α:Type}{xs:List α}{n:Nat}:(xs.take n).length≤n:=by rw[List.length_take];omega
/-! texts sorted,without doubles -/
namespace StrL
theorem lt_irrefl:∀(a:Str),Op.bytesLess a a=false
 | []=>rfl
 | x::xs=>by
  have h:¬x<x:=by simp
  simp[Op.bytesLess,h,lt_irrefl xs]
theorem lt_trans:∀(a b c:Str),Op.bytesLess a b=true→Op.bytesLess b c=true→Op.bytesLess a c=true
 | _,[],_,h,_=>by simp[Op.bytesLess] at h
 | _,_::_,[],_,h=>by simp[Op.bytesLess] at h
 | [],_::_,_::_,_,_=>rfl
 | x::xs,y::ys,z::zs,h1,h2=>by
  simp only[Op.bytesLess,Bool.or_eq_true,decide_eq_true_eq,Bool.and_eq_true,beq_iff_eq] at h1 h2 ⊢
  rcases h1 with h1 | ⟨h1,h3⟩<;>rcases h2 with h2 | ⟨h2,h4⟩
  ·exact .inl (UInt8.lt_trans h1 h2)
  ·subst h2;exact .inl h1
  ·subst h1;exact .inl h2
  ·subst h1;subst h2;exact .inr ⟨rfl,lt_trans xs ys zs h3 h4⟩
def Lt (a b:Str):Prop:=Op.bytesLess a b=true
theorem tri (a b:Str):Lt a b∨a=b∨Lt b a:=by
 have:=less_tri a b
 unfold Lt
 cases h:Op.bytesLess a b
 ·cases h2:a==b
  ·rw[h,h2] at this;exact .inr (.inr this.symm)
  ·exact .inr (.inl (by simpa using h2))
 ·exact .inl rfl
theorem Lt.irrefl {a:Str}(h:Lt a a):False:=by unfold Lt at h;rw[lt_irrefl] at h;cases h
theorem Lt.trans {a b c:Str}(h:Lt a b)(h2:Lt b c):Lt a c:=lt_trans a b c h h2
theorem Lt.asymm {a b:Str}(h:Lt a b)(h2:Lt b a):False:=(h.trans h2).irrefl
/-- not behind -/
def Le (a b:Str):Prop:=¬Lt b a
theorem Le.lt_or {a b:Str}(h:Le a b):Lt a b∨a=b:=by
 rcases tri a b with h1 | h1 | h1
 ·exact .inl h1
 ·exact .inr h1
 ·exact (h h1).elim
theorem Le.trans {a b c:Str}(h:Le a b)(h2:Le b c):Le a c:=by
 intro h3
 rcases h.lt_or with h4 | rfl
 ·rcases h2.lt_or with h5 | rfl
  ·exact (h4.trans h5).asymm h3
  ·exact h h3
 ·exact h2 h3
theorem Lt.le {a b:Str}(h:Lt a b):Le a b:=fun h2=>h.asymm h2
theorem Lt.ne {a b:Str}(h:Lt a b):a≠b:=fun e=>by subst e;exact h.irrefl
theorem Lt.lt_le {a b c:Str}(h:Lt a b)(h2:Le b c):Lt a c:=by
 rcases h2.lt_or with h3 | rfl
 ·exact h.trans h3
 ·exact h
theorem Le.le_lt {a b c:Str}(h:Le a b)(h2:Lt b c):Lt a c:=by
 rcases h.lt_or with h3 | rfl
 ·exact h3.trans h2
 ·exact h2
end StrL
namespace StrL
def ddKeep (a:List Str)(j:Nat):Bool:=match j with
 | 0=>true
 | j+1=>match a[j]?,a[j+1]? with
  | some x,some y=>y != x
  | _,_=>true
def dd (a:List Str):List Str:=kept (ddKeep a) a a.length
theorem dd_none {a:List Str}(h:∀j x y,a[j]?=some x→a[j+1]?=some y→y≠x){n:Nat}(hn:n≤a.length):kept (ddKeep a) a n=a.take n:=by
 rw[kept_filter (p:=fun _=>true) (fun j x hx=>?_) hn,List.filter_eq_self.2 (fun _ _=>rfl)]
 cases j with
 | zero=>rfl
 | succ j=>
  obtain⟨h1,_⟩:=List.getElem?_eq_some_iff.1 hx
  have h2:=List.getElem?_eq_getElem (show j<a.length by omega)
  simp only[ddKeep,h2,hx]
  simpa using h j _ _ h2 hx
theorem dd_upto {a:List Str}{k:Nat}(h:∀j x y,j+1<k→a[j]?=some x→a[j+1]?=some y→y≠x)(hn:k≤a.length):kept (ddKeep a) a k=a.take k:=by
 have e:∀n,n≤k→kept (ddKeep a) a n=a.take n:=by
  intro n
  induction n with
  | zero=>intro _;rfl
  | succ n ih=>
   intro hk
   have h1:n<a.length:=by omega
   have hx:=List.getElem?_eq_getElem h1
   rw[kept_yes ?_ hx,ih (by omega),List.take_add_one,hx]
   ·rfl
   ·cases n with
    | zero=>rfl
    | succ n=>
     have h2:=List.getElem?_eq_getElem (show n<a.length by omega)
     simp only[ddKeep,h2,hx]
     simpa using h n _ _ (by omega) h2 hx
 exact e k (Nat.le_refl k)
theorem getP_at {s z:List Str}{x j:Nat}(h1:x≤j)(h2:j<s.length):getP z (0+Int.toNat (x:Int)) (Int.toNat (len s) - Int.toNat (x:Int)) ((j:Int) - (x:Int))=z[j]?:=by
 unfold getP
 simp only[len,Int.toNat_natCast,Nat.zero_add]
 rw[if_pos (by omega),show x+((j:Int) - (x:Int)).toNat=j by omega]
theorem compact_rest (s:List Str)(x:Nat)(hl:s.length≤1048576)(hx:x<s.length)(h0:kept (ddKeep s) s (x+1)=s.take x):∃(i:Nat) (z:List Str),Ffbz_lb s (x:Int) ((x:Int),1,s)=some (.inr ((i:Int),z))∧z.length=s.length∧i≤z.length∧z.take i=dd s:=by
 have hD:=delLoop (L:=fun q:Int×Int×List Str=>Ffbz_lb s (x:Int) (q.1,q.2.1 - (x:Int),q.2.2)) (keep:=ddKeep s) (a:=s) (i0:=x)
  (by
   intro i j z y hz hi hij hy hy2 hy3
   obtain⟨h1,_⟩:=List.getElem?_eq_some_iff.1 hy
   have h2:=List.getElem?_eq_getElem (show j - 1<s.length by omega)
   have h4:=List.getElem?_eq_getElem (show i<z.length by omega)
   show Ffbz_lb s (x:Int) ((i:Int),(j:Int) - (x:Int),z)=bif ddKeep s j then Ffbz_lb s (x:Int) (((i+1:Nat):Int),((j+1:Nat):Int) - (x:Int),z.set i y) else Ffbz_lb s (x:Int) ((i:Int),((j+1:Nat):Int) - (x:Int),z)
   have w1:w64 ((j:Int) - (x:Int) - 1)=((j - 1:Nat):Int) - (x:Int):=by rw[w64_id (by omega) (by omega)];omega
   have w2:w64 ((j:Int) - (x:Int)+1)=((j+1:Nat):Int) - (x:Int):=by rw[w64_id (by omega) (by omega)];omega
   have c1:decide ((j:Int) - (x:Int)<(((Int.toNat (len s) - Int.toNat (x:Int)):Nat):Int))=true:=decide_eq_true (by simp only[len,Int.toNat_natCast];omega)
   rw[Ffbz_lb_eq,Ffbz_lb_F]
   simp only[c1,cond_true,w1,w2,getP_at (show x≤j by omega) h1,getP_at (show x≤j - 1 by omega) (show j - 1<s.length by omega),hy2,hy3,h2,Option.bind_some,getI_nat,setI_nat,h4,w64_succ (show i<9223372036854775807 by omega)]
   have hk:ddKeep s j=(y != s[j - 1]):=by
    cases j with
    | zero=>omega
    | succ j=>
     simp only[ddKeep,hy,show j+1 - 1=j by omega] at h2 ⊢
     simp only[h2]
   rw[hk]
   show _=bif !(y==s[j - 1]) then _ else _
   cases y==s[j - 1]<;>rfl)
  (by
   intro i j z hz hi hij hj
   show Ffbz_lb s (x:Int) ((i:Int),(j:Int) - (x:Int),z)=_
   have c1:decide ((j:Int) - (x:Int)<(((Int.toNat (len s) - Int.toNat (x:Int)):Nat):Int))=false:=decide_eq_false (by simp only[len,Int.toNat_natCast];omega)
   rw[Ffbz_lb_eq,Ffbz_lb_F]
   simp only[c1,cond_false])
  h0 hx
 simp only[show ((x+1:Nat):Int) - (x:Int)=1 by omega] at hD
 exact hD
theorem compact_loop (s:List Str)(hl:s.length≤1048576):∀(n k:Nat),k+n=s.length→1≤k→(∀j x y,j+1<k→s[j]?=some x→s[j+1]?=some y→y≠x)→∃y,Ffbz_la s (k:Int)=some y∧(y=.inl (dd s)∨y=.inr (dd s))
 | 0,k,hk,h1,h=>by
  refine⟨.inr s,?_,.inr ?_⟩
  ·rw[Ffbz_la_eq,Ffbz_la_F,lt_len,decide_eq_false (by omega),cond_false]
  ·unfold dd
   rw[dd_upto (k:=s.length) (fun j x y hj=>h j x y (by omega)) (Nat.le_refl _),List.take_length]
 | n+1,k,hk,h1,h=>by
  have h2:k<s.length:=by omega
  have e1:=List.getElem?_eq_getElem h2
  have e2:=List.getElem?_eq_getElem (show k - 1<s.length by omega)
  have w1:w64 ((k:Int) - 1)=((k - 1:Nat):Int):=by rw[w64_id (by omega) (by omega)];omega
  rw[Ffbz_la_eq,Ffbz_la_F,lt_len,decide_eq_true h2,cond_true,w1,getI_nat,getI_nat,e1,e2,Option.bind_some,Option.bind_some,w64_succ (by omega)]
  by_cases hq:s[k]=s[k - 1]
  ·rw[beq_iff_eq.2 hq,cond_true]
   have e3:subP s.length (k:Int) (len s)=some ():=by unfold subP;rw[if_pos (by simp only[len];omega)]
   have hno:ddKeep s k=false:=by
    cases k with
    | zero=>omega
    | succ k=>
     simp only[show k+1 - 1=k by omega] at e2 hq
     simp only[ddKeep,e1,e2,hq,bne_self_eq_false]
   obtain⟨i,z,e,hz,hi,ht⟩:=compact_rest s k hl h2 (by rw[kept_no hno,dd_upto h (by omega)])
   rw[e3,Option.bind_some,e,bindL_inr]
   refine⟨.inl (dd s),?_,.inl rfl⟩
   rw[←ht]
   exact cutL (c:=([]:Str)) (F:=fun p19=>some (Sum.inl p19)) hi
  ·rw[beq_eq_false_iff_ne.2 hq,cond_false]
   refine compact_loop s hl n (k+1) (by omega) (by omega) fun j x y hj hx hy=>?_
   by_cases hj2:j+1<k
   ·exact h j x y hj2 hx hy
   ·obtain rfl:k=j+1:=by omega
    simp only[show j+1 - 1=j by omega] at e2 hq
    rw[e2] at hx
    rw[e1] at hy
    cases hx
    cases hy
    exact hq
theorem compact_val (s:List Str)(hl:s.length≤1048576):Ffbz s=some (dd s):=by
 unfold Ffbz
 by_cases h:len s<2
 ·rw[decide_eq_true h,cond_true]
  have h':s.length<2:=by simp only[len] at h;omega
  unfold dd
  rw[dd_upto (k:=s.length) (fun j x y hj=>by omega) (Nat.le_refl _),List.take_length]
 ·rw[decide_eq_false h,cond_false]
  have h':¬s.length<2:=by simp only[len] at h;omega
  obtain⟨y,hy,hq⟩:=compact_loop s hl (s.length - 1) 1 (by omega) (Nat.le_refl _) (fun j x y hj=>by omega)
  rw[show Ffbz_la s 1=some y from hy]
  rcases hq with rfl | rfl<;>rfl
end StrL
namespace StrL
theorem dd_sorted {a:List Str}(hs:a.Pairwise Le):∀n,n≤a.length→(kept (ddKeep a) a n).Pairwise Lt∧∀x,x∈kept (ddKeep a) a n↔x∈a.take n
 | 0,_=>by
  have e:kept (ddKeep a) a 0=[]:=rfl
  rw[e]
  exact⟨List.Pairwise.nil,fun x=>by simp⟩
 | n+1,hn=>by
  obtain⟨h1,h2⟩:=dd_sorted hs n (by omega)
  have hlt:n<a.length:=by omega
  have hx:=List.getElem?_eq_getElem hlt
  have hle:∀y∈a.take n,Le y a[n]:=by
   intro y hy
   obtain⟨i,hi,rfl⟩:=List.mem_iff_getElem.1 hy
   rw[List.length_take] at hi
   rw[List.getElem_take]
   exact List.pairwise_iff_getElem.1 hs i n (by omega) hlt (by omega)
  cases hk:ddKeep a n with
  | true=>
   rw[kept_yes hk hx]
   have hstrict:∀y∈a.take n,Lt y a[n]:=by
    intro y hy
    cases n with
    | zero=>simp at hy
    | succ j=>
     have h3:=List.getElem?_eq_getElem (show j<a.length by omega)
     have hne:a[j+1]≠a[j]:=by
      simp only[ddKeep,h3,hx] at hk
      simpa using hk
     have hj:Le a[j] a[j+1]:=List.pairwise_iff_getElem.1 hs j (j+1) (by omega) hlt (by omega)
     obtain⟨i,hi,rfl⟩:=List.mem_iff_getElem.1 hy
     rw[List.length_take] at hi
     rw[List.getElem_take]
     have hlt2:Lt a[j] a[j+1]:=hj.lt_or.resolve_right fun e=>hne e.symm
     by_cases e:i=j
     ·subst e;exact hlt2
     ·have:=List.pairwise_iff_getElem.1 hs i j (by omega) (by omega) (by omega)
      exact this.le_lt hlt2
   refine⟨List.pairwise_append.2 ⟨h1,List.pairwise_singleton _ _,fun y hy z hz=>?_⟩,fun x=>?_⟩
   ·rw[List.mem_singleton] at hz
    subst hz
    exact hstrict y ((h2 y).1 hy)
   ·rw[List.take_add_one,hx,List.mem_append,List.mem_append,h2]
    rfl
  | false=>
   rw[kept_no hk]
   refine⟨h1,fun x=>?_⟩
   rw[h2,List.take_add_one,hx,List.mem_append]
   constructor
   ·exact .inl
   ·rintro (h | h)
    ·exact h
    ·have e:x=a[n]:=by simpa using h
     subst e
     cases n with
     | zero=>simp[ddKeep] at hk
     | succ j=>
      have h3:=List.getElem?_eq_getElem (show j<a.length by omega)
      simp only[ddKeep,h3,hx] at hk
      have e:a[j+1]=a[j]:=by simpa using hk
      rw[e]
      have:a[j]∈a.take (j+1):=by
       rw[List.mem_iff_getElem]
       exact⟨j,by rw[List.length_take];omega,by rw[List.getElem_take]⟩
      exact this
theorem dd_ok {a:List Str}(hs:a.Pairwise Le):(dd a).Pairwise Lt∧∀x,x∈dd a↔x∈a:=by
 have:=dd_sorted hs a.length (Nat.le_refl _)
 rw[List.take_length] at this
 exact this
theorem dd_len (a:List Str):(dd a).length≤a.length:=by
 have h:∀n,(kept (ddKeep a) a n).length≤n:=by
  intro n
  have:=List.length_filterMap_le (fun j=>if ddKeep a j=true then a[j]? else none) (List.range n)
  rw[List.length_range] at this
  exact this
 exact h _
/-- Two strictly ascending lists of the same numbers are one. -/
theorem asc_uniq:∀{a b:List Str},a.Pairwise Lt→b.Pairwise Lt→(∀x,x∈a↔x∈b)→a=b
 | [],[],_,_,_=>rfl
 | [],y::b,_,_,h=>absurd ((h y).2 (by simp)) (by simp)
 | x::a,[],_,_,h=>absurd ((h x).1 (by simp)) (by simp)
 | x::a,y::b,ha,hb,h=>by
  rw[List.pairwise_cons] at ha hb
  have e:x=y:=by
   have h1:=(h x).1 (by simp)
   have h2:=(h y).2 (by simp)
   rw[List.mem_cons] at h1 h2
   rcases h1 with h1 | h1
   ·exact h1
   ·rcases h2 with h2 | h2
    ·exact h2.symm
    ·exact ((ha.1 y h2).asymm (hb.1 x h1)).elim
  subst e
  rw[asc_uniq ha.2 hb.2 fun z=>?_]
  constructor
  ·intro hz
   have h1:=(h z).1 (List.mem_cons_of_mem _ hz)
   rcases List.mem_cons.1 h1 with e | h1
   ·subst e;exact (ha.1 z hz).irrefl.elim
   ·exact h1
  ·intro hz
   have h1:=(h z).2 (List.mem_cons_of_mem _ hz)
   rcases List.mem_cons.1 h1 with e | h1
   ·subst e;exact (hb.1 z hz).irrefl.elim
   ·exact h1
theorem appI_two {b:Nat}{xs ys:List Str}(h:(xs.length+ys.length)*b≤1099511627776)(h2:xs.length+ys.length≤1099511627776):appI b xs ys=some (xs++ys):=by
 unfold appI
 rw[if_pos]
 simp only[lim]
 omega
theorem put_loop (l:List Str)(n:Str)(m:Nat)(hm:m≤l.length)(hl:l.length≤1048576)(h1:∀(j:Nat) x,j<m→l[j]?=some x→Lt x n)(h2:∀x,l[m]?=some x→¬Lt x n):∀(k j:Nat),j+k=m→Ffco_la l n (j:Int)=some (.inr (n,(m:Int),l))
 | 0,j,hj=>by
  obtain rfl:j=m:=by omega
  rw[Ffco_la_eq,Ffco_la_F,lt_len]
  by_cases h:j<l.length
  ·rw[decide_eq_true h,cond_true,getI_nat,List.getElem?_eq_getElem h,Option.bind_some,bindL_inr,show Op.bytesLess l[j] n=false from by simpa[Lt] using h2 _ (List.getElem?_eq_getElem h),cond_false]
  ·rw[decide_eq_false h,cond_false,bindL_inr,cond_false]
 | k+1,j,hj=>by
  have h:j<l.length:=by omega
  rw[Ffco_la_eq,Ffco_la_F,lt_len,decide_eq_true h,cond_true,getI_nat,List.getElem?_eq_getElem h,Option.bind_some,bindL_inr,show Op.bytesLess l[j] n=true from h1 j _ (by omega) (List.getElem?_eq_getElem h),cond_true,w64_succ (by omega)]
  exact put_loop l n m hm hl h1 h2 k (j+1) (by omega)
/-- A text put into a strictly ascending list. -/
theorem put_val (l:List Str)(n:Str)(hl:l.length≤1000000)(hs:l.Pairwise Lt):∃r,Ffco l n=some r∧r.Pairwise Lt∧(∀x,x∈r↔x∈l∨x=n)∧r.length≤l.length+1:=by
 have key:∃m,m≤l.length∧(∀(j:Nat) x,j<m→l[j]?=some x→Lt x n)∧(∀x,l[m]?=some x→¬Lt x n):=by
  clear hl
  induction l with
  | nil=>exact⟨0,by simp,fun j x hj=>by omega,fun x hx=>by simp at hx⟩
  | cons y l ih=>
   by_cases hy:Lt y n
   ·obtain⟨m,h1,h2,h3⟩:=ih (List.pairwise_cons.1 hs).2
    refine⟨m+1,by simp;omega,fun j x hj hx=>?_,fun x hx=>h3 x (by simpa using hx)⟩
    cases j with
    | zero=>simp at hx;subst hx;exact hy
    | succ j=>exact h2 j x (by omega) (by simpa using hx)
   ·exact⟨0,by simp,fun j x hj=>by omega,fun x hx=>by simp at hx;subst hx;exact hy⟩
 obtain⟨m,hm,h1,h2⟩:=key
 have hlow:∀x∈l.take m,Lt x n:=by
  intro x hx
  obtain⟨i,hi,rfl⟩:=List.mem_iff_getElem.1 hx
  rw[List.length_take] at hi
  rw[List.getElem_take]
  exact h1 i _ (by omega) (List.getElem?_eq_getElem (by omega))
 have hloop:=put_loop l n m hm (by omega) h1 h2 m 0 (by omega)
 rw[show ((0:Nat):Int)=0 from rfl] at hloop
 unfold Ffco
 rw[hloop]
 simp only[bindJ_inr,lt_len]
 have s1:subP l.length 0 (m:Int)=some ():=by unfold subP;rw[if_pos (by omega)]
 have s2:subP l.length (m:Int) (len l)=some ():=by unfold subP;rw[if_pos (by simp only[len];omega)]
 have p1:partP l (0+Int.toNat 0) (Int.toNat (m:Int) - Int.toNat 0)=some (l.take m):=by
  unfold partP
  simp only[Int.toNat_zero,Int.toNat_natCast,Nat.zero_add,Nat.sub_zero,List.drop_zero]
  rw[if_pos hm]
 have p2:partP l (0+Int.toNat (m:Int)) (Int.toNat (len l) - Int.toNat (m:Int))=some (l.drop m):=by
  unfold partP
  simp only[Int.toNat_natCast,Nat.zero_add,len]
  rw[if_pos (by omega),List.take_of_length_le (by rw[List.length_drop];omega)]
 have a1:appI 16 ([]:List Str) (l.take m)=some (l.take m):=by rw[appI_two (by simp only[List.length_nil,List.length_take];omega) (by simp only[List.length_nil,List.length_take];omega)];rfl
 have a2:appI 16 (l.take m) [n]=some (l.take m++[n]):=appI_one (by rw[List.length_take];omega) (by rw[List.length_take];omega)
 have a3:appI 16 (l.take m++[n]) (l.drop m)=some (l.take m++[n]++l.drop m):=appI_two (by simp only[List.length_append,List.length_take,List.length_drop,List.length_singleton];omega) (by simp only[List.length_append,List.length_take,List.length_drop,List.length_singleton];omega)
 have hins:(∀x∈l.drop m,Lt n x)→(l.take m++[n]++l.drop m).Pairwise Lt∧(∀x,x∈l.take m++[n]++l.drop m↔x∈l∨x=n)∧(l.take m++[n]++l.drop m).length≤l.length+1:=by
  intro hhi
  have hs2:=hs
  rw[←List.take_append_drop m l,List.pairwise_append] at hs2
  refine⟨List.pairwise_append.2 ⟨List.pairwise_append.2 ⟨hs2.1,List.pairwise_singleton _ _,fun x hx y hy=>?_⟩,hs2.2.1,fun x hx y hy=>?_⟩,fun x=>?_,?_⟩
  ·rw[List.mem_singleton] at hy;subst hy;exact hlow x hx
  ·rcases List.mem_append.1 hx with hx | hx
   ·exact hs2.2.2 x hx y hy
   ·rw[List.mem_singleton] at hx;subst hx;exact hhi y hy
  ·have:x∈l↔x∈l.take m∨x∈l.drop m:=by
    rw[←List.mem_append,List.take_append_drop]
   rw[List.mem_append,List.mem_append,List.mem_singleton,this]
   constructor
   ·rintro ((h | h) | h)
    ·exact .inl (.inl h)
    ·exact .inr h
    ·exact .inl (.inr h)
   ·rintro ((h | h) | h)
    ·exact .inl (.inl h)
    ·exact .inr h
    ·exact .inl (.inr h)
  ·simp only[List.length_append,List.length_take,List.length_drop,List.length_singleton];omega
 by_cases hb:m<l.length
 ·have hx:=List.getElem?_eq_getElem hb
  have hge:=h2 _ hx
  have hrest:∀x∈l.drop (m+1),Lt l[m] x:=by
   intro x hx
   obtain⟨i,hi,rfl⟩:=List.mem_iff_getElem.1 hx
   rw[List.length_drop] at hi
   rw[List.getElem_drop]
   exact List.pairwise_iff_getElem.1 hs m (m+1+i) hb (by omega) (by omega)
  rw[decide_eq_true hb,cond_true,getI_nat,hx,Option.bind_some,bindJ_inr,str_beq]
  by_cases he:l[m]=n
  ·rw[decide_eq_true he,cond_true]
   refine⟨l,rfl,hs,fun x=>⟨.inl,?_⟩,by omega⟩
   rintro (h | h)
   ·exact h
   ·rw[h,←he];exact List.getElem_mem hb
  ·rw[decide_eq_false he,cond_false]
   simp only[s1,p1,a1,a2,s2,p2,a3,Option.bind_some]
   refine⟨_,rfl,hins ?_⟩
   intro x hx
   rw[List.drop_eq_getElem_cons hb] at hx
   rcases List.mem_cons.1 hx with rfl | hx
   ·exact (tri n l[m]).resolve_right fun h=>h.elim (fun e=>he e.symm) hge
   ·have h1:Lt n l[m]:=(tri n l[m]).resolve_right fun h=>h.elim (fun e=>he e.symm) hge
    exact h1.trans (hrest x hx)
 ·rw[decide_eq_false hb,cond_false,bindJ_inr,cond_false]
  simp only[s1,p1,a1,a2,s2,p2,a3,Option.bind_some]
  refine⟨_,rfl,hins ?_⟩
  intro x hx
  rw[List.drop_of_length_le (by omega)] at hx
  cases hx
end StrL
/-! names sorted by the library's function -/
theorem xle_iff {x y:Str}:decide (x≤y)=true↔StrL.Le x y:=by
 unfold StrL.Le StrL.Lt
 rw[Go.Proofs.bytesLess_eq,decide_eq_true_iff,decide_eq_true_iff]
 exact Iff.rfl
theorem xsort_pw (l:List Str):(l.mergeSort fun x y=>decide (x≤y)).Pairwise StrL.Le:=by
 have h:=List.pairwise_mergeSort (le:=fun x y:Str=>decide (x≤y)) (fun x y z h1 h2=>by
  rw[xle_iff] at *;exact h1.trans h2) (fun x y=>by
  rw[Bool.or_eq_true,xle_iff,xle_iff]
  rcases StrL.tri x y with h | h | h
  ·exact .inl h.le
  ·subst h;exact .inl fun h=>h.irrefl
  ·exact .inr h.le) l
 exact h.imp fun {x y} h=>xle_iff.1 h
/-- both sorted lists of names are one -/
theorem Ffp_val (l r:List Str)(hl:l.length≤1048576)(hr:r.Pairwise StrL.Lt)(hm:∀x,x∈r↔x∈l):Ffp l=some r:=by
 unfold Ffp xSortS
 have hl2:(l.mergeSort fun (x y:Str)=>decide (x≤y)).length=l.length:=List.length_mergeSort _
 rw[Nat.ble_eq_true_of_le hl,cond_true,Option.bind_some,hl2,Nat.beq_refl,cond_true,StrL.compact_val _ (by rw[hl2];exact hl),Option.bind_some]
 obtain⟨h1,h2⟩:=StrL.dd_ok (xsort_pw l)
 congr 1
 refine StrL.asc_uniq h1 hr fun x=>?_
 rw[h2,hm]
 exact (List.mergeSort_perm l _).mem_iff
/-! between -/
theorem cond_and (b x:Bool):(bif b then x else false)=(b&&x):=by cases b<;>rfl
def inB (x a b:Int):Bool:=decide (x≥a)&&decide (x≤b)
theorem spec_in (x a b:Int):spec_l1In x a b=some (inB x a b):=by simp only[spec_l1In,letJ_eq,cond_and,inB]
theorem impl_in (x a b:Int):Ffq x a b=some (inB x a b):=by simp only[Ffq,letJ_eq,cond_and,inB]
/-! names -/
def signB (c:UInt8):Bool:=(decide (97≤c.toNat)&&decide (c.toNat≤122))||(decide (48≤c.toNat)&&decide (c.toNat≤57))
theorem spec_sign (c:UInt8):Ffcp (c.toNat:Int)=some (signB c):=by
 simp only[Ffcp,signB,letJ_eq]
 by_cases h1:97≤c.toNat<;>by_cases h2:c.toNat≤122<;>by_cases h3:48≤c.toNat<;>by_cases h4:c.toNat≤57<;>simp[h1,h2,h3,h4,show ((97:Int)≤c.toNat)↔97≤c.toNat by omega,show ((c.toNat:Int)≤122)↔c.toNat≤122 by omega,show ((48:Int)≤c.toNat)↔48≤c.toNat by omega,show ((c.toNat:Int)≤57)↔c.toNat≤57 by omega]
def words:List Str:=[[116,114,117,101],[102,114,111,109],[110,111,116],[97,110,100],[111,114],[98,111,116,104],[101,105,116,104,101,114],[105,116],[105,110]]
def nameB (s:Str):Bool:=match s with
 | []=>false
 | c::r=>decide (r.length<8)&&decide (97≤c.toNat)&&decide (c.toNat≤122)&&s.all signB && !words.contains s
theorem cond_or (b x:Bool):(bif b then b else x)=(b||x):=by cases b<;>rfl
theorem split_words:Ffcz [116,114,117,101,32,102,114,111,109,32,110,111,116,32,97,110,100,32,111,114,32,98,111,116,104,32,101,105,116,104,101,114,32,105,116,32,105,110] [32]=some words:=by
 have h:Ffda_la [116,114,117,101,32,102,114,111,109,32,110,111,116,32,97,110,100,32,111,114,32,98,111,116,104,32,101,105,116,104,101,114,32,105,116,32,105,110] [32] 0 (-1) 9 ([116,114,117,101,32,102,114,111,109,32,110,111,116,32,97,110,100,32,111,114,32,98,111,116,104,32,101,105,116,104,101,114,32,105,116,32,105,110],0,List.replicate 9 [])=some (.inr ([105,110],8,[[116,114,117,101],[102,114,111,109],[110,111,116],[97,110,100],[111,114],[98,111,116,104],[101,105,116,104,101,114],[105,116],[]])):=
  (fixO_iff (fun a=>(Ffda_la_fin _ _ _ _ _ a).1)).2 ⟨20,by decide +kernel⟩
 have e:Ffcz [116,114,117,101,32,102,114,111,109,32,110,111,116,32,97,110,100,32,111,114,32,98,111,116,104,32,101,105,116,104,101,114,32,105,116,32,105,110] [32]=(bindJ (Ffda_la [116,114,117,101,32,102,114,111,109,32,110,111,116,32,97,110,100,32,111,114,32,98,111,116,104,32,101,105,116,104,101,114,32,105,116,32,105,110] [32] 0 (-1) 9 ([116,114,117,101,32,102,114,111,109,32,110,111,116,32,97,110,100,32,111,114,32,98,111,116,104,32,101,105,116,104,101,114,32,105,116,32,105,110],0,List.replicate 9 [])) fun u12:Str×Int×(List Str)=>(getI u12.2.2 u12.2.1).bind fun e13=>(subP (setI u12.2.2 u12.2.1 u12.1).length 0 (w64 (u12.2.1+1))).bind fun s14=>(partP (setI u12.2.2 u12.2.1 u12.1) (0+Int.toNat (0)) (Int.toNat ((w64 (u12.2.1+1))) - Int.toNat (0))).bind fun p15=>some p15).bind fun r=>some r:=by rfl
 rw[e,h]
 rfl
theorem contains_words (s:Str):Ffcb words s=some (words.contains s):=by
 unfold Ffcb Ffce
 rw[idxLoop (L:=Ffce_la words s) (a:=words) (p:=fun e=>some (s==e)) (q:=fun e=>s==e) (fun _ _=>rfl) (fun x=>by rw[Ffce_la_eq,Ffce_la_F]<;>rfl) (by decide)]
 cases h:words.findIdx? (fun e=>s==e) with
 | none=>
  have:words.contains s=false:=by
   rw[List.findIdx?_eq_none_iff] at h
   rw[Bool.eq_false_iff]
   intro hc
   rw[List.contains_iff_exists_mem_beq] at hc
   obtain⟨w,hw,he⟩:=hc
   rw[h w hw] at he
   cases he
  rw[this]
  rfl
 | some i=>
  have:words.contains s=true:=by
   rw[List.findIdx?_eq_some_iff_getElem] at h
   obtain⟨hi,he,_⟩:=h
   rw[List.contains_iff_exists_mem_beq]
   exact⟨_,List.getElem_mem hi,he⟩
  rw[this]
  simp
theorem spec_words (s:Str):(bif s==[116,114,117,101] then s==[116,114,117,101] else bif s==[102,114,111,109] then s==[102,114,111,109] else bif s==[110,111,116] then s==[110,111,116] else bif s==[97,110,100] then s==[97,110,100] else bif s==[111,114] then s==[111,114] else bif s==[98,111,116,104] then s==[98,111,116,104] else bif s==[101,105,116,104,101,114] then s==[101,105,116,104,101,114] else bif s==[105,116] then s==[105,116] else s==[105,110])=words.contains s:=by
 simp only[cond_or,words,List.contains_cons,List.contains_nil,Bool.or_false]
theorem spec_name (s:Str)(hs:s.length≤1048576):Ffcm s=some (nameB s):=by
 unfold Ffcm spec_l1In nameB
 simp only[letJ_eq,Option.bind_some,spec_words]
 cases s with
 | nil=>rfl
 | cons c r=>
  have e1:decide (len (c::r)≥1)=true:=decide_eq_true (by simp[len];omega)
  have e2:decide (len (c::r)≤8)=decide (r.length<8):=by simp only[len,List.length_cons];congr 1;apply propext;omega
  have e3:getI (c::r) (0:Int)=some c:=rfl
  have e4:decide ((c.toNat:Int)<97)=!decide (97≤c.toNat):=by rw[←decide_not];congr 1;apply propext;omega
  have e5:decide ((c.toNat:Int)>122)=!decide (c.toNat≤122):=by rw[←decide_not];congr 1;apply propext;omega
  rw[e1,e2,e3,anyLoop (r:=false) (L:=Ffcm_la (c::r)) (a:=c::r) (p:=fun c=>(Ffcp (c.toNat:Int)).bind fun r=>some (!r)) (q:=fun c=>!signB c) (fun x _=>by rw[spec_sign];rfl) (fun x=>by rw[Ffcm_la_eq,Ffcm_la_F];simp only[Option.bind_assoc,Option.bind_some]) (by omega)]
  simp only[cond_true,Option.bind_some,e4,e5]
  have e6:((c::r).any fun c=>!signB c)=!((c::r).all signB):=by rw[List.not_all_eq_any_not]
  rw[e6]
  cases decide (r.length<8)<;>cases decide (97≤c.toNat)<;>cases decide (c.toNat≤122)<;>cases (c::r).all signB<;>cases words.contains (c::r)<;>rfl
theorem impl_name (s:Str)(hs:s.length≤1048576):Ffe s=some (nameB s):=by
 unfold Ffe Ffq nameB
 simp only[letJ_eq,Option.bind_some,split_words,contains_words]
 cases s with
 | nil=>rfl
 | cons c r=>
  have e1:decide (len (c::r)≥1)=true:=decide_eq_true (by simp[len];omega)
  have e2:decide (len (c::r)≤8)=decide (r.length<8):=by simp only[len,List.length_cons];congr 1;apply propext;omega
  have e3:getI (c::r) (0:Int)=some c:=rfl
  have e4:decide ((c.toNat:Int)<97)=!decide (97≤c.toNat):=by rw[←decide_not];congr 1;apply propext;omega
  have e5:decide ((c.toNat:Int)>122)=!decide (c.toNat≤122):=by rw[←decide_not];congr 1;apply propext;omega
  have hp:∀c:UInt8,(bif decide ((c.toNat:Int)<97) then (bif decide ((c.toNat:Int)<48) then true else decide ((c.toNat:Int)>57)) else (bif decide ((c.toNat:Int)>122) then (bif decide ((c.toNat:Int)<48) then true else decide ((c.toNat:Int)>57)) else false))=!signB c:=by
   intro c
   have f1:decide ((c.toNat:Int)<97)=!decide (97≤c.toNat):=by rw[←decide_not];congr 1;apply propext;omega
   have f2:decide ((c.toNat:Int)>122)=!decide (c.toNat≤122):=by rw[←decide_not];congr 1;apply propext;omega
   have f3:decide ((c.toNat:Int)<48)=!decide (48≤c.toNat):=by rw[←decide_not];congr 1;apply propext;omega
   have f4:decide ((c.toNat:Int)>57)=!decide (c.toNat≤57):=by rw[←decide_not];congr 1;apply propext;omega
   rw[f1,f2,f3,f4]
   unfold signB
   by_cases g1:97≤c.toNat
   ·have g3:48≤c.toNat:=by omega
    have g4:¬c.toNat≤57:=by omega
    simp only[g1,g3,g4,decide_true,decide_false]
    cases decide (c.toNat≤122)<;>rfl
   ·simp only[g1,decide_false]
    cases decide (48≤c.toNat)<;>cases decide (c.toNat≤57)<;>rfl
  rw[e1,e2,e3,anyLoop (r:=false) (L:=Ffe_la (c::r)) (a:=c::r) (p:=fun c=>some (!signB c)) (q:=fun c=>!signB c) (fun x _=>rfl) (fun x=>by rw[Ffe_la_eq,Ffe_la_F];simp only[letJ_eq,hp,Option.bind_some]) (by omega)]
  simp only[cond_true,Option.bind_some,e4,e5]
  have e6:((c::r).any fun c=>!signB c)=!((c::r).all signB):=by rw[List.not_all_eq_any_not]
  rw[e6]
  cases decide (r.length<8)<;>cases decide (97≤c.toNat)<;>cases decide (c.toNat≤122)<;>cases (c::r).all signB<;>cases words.contains (c::r)<;>rfl
/-! loops by their steps -/
theorem goLoop {ρ υ σ : Type}{L : Nat → σ → Option (ρ ⊕ υ)}(N : Nat)(J : Nat → σ → Prop)(T : ρ ⊕ υ → Prop)(hs : ∀ i s, i < N → J i s → (∃ s', J (i + 1) s' ∧ L i s = L (i + 1) s') ∨ ∃ y, T y ∧ L i s = some y)(he : ∀ s, J N s → ∃ y, T y ∧ L N s = some y){s : σ}(h0 : J 0 s) : ∃ y, T y ∧ L 0 s = some y := by
  have key : ∀ k i s, i + k = N → J i s → ∃ y, T y ∧ L i s = some y := by
    intro k
    induction k with
    | zero => intro i s hi hj; obtain rfl : i = N := by omega
              exact he s hj
    | succ k ih =>
      intro i s hi hj
      rcases hs i s (by omega) hj with ⟨s', h1, h2⟩ | h
      · rw [h2]; exact ih (i + 1) s' (by omega) h1
      · exact h
  exact key N 0 s (by omega) h0
theorem allLoop {α:Type}{L:Int→Option (Bool⊕Unit)}{a:List α}{f:α→Option Bool}{p:α→Bool}(hf:∀x∈a,f x=some (p x))(hL:∀x,L x=bif decide (x<len a) then (getI a x).bind fun e=>(f e).bind fun r=>bif !r then some (.inl false) else L (w64 (x+1)) else some (.inr ()))(hb:a.length<9223372036854775807):L 0=some (if a.all p then .inr () else .inl false):=by
 obtain⟨y,h1,h2⟩:=goLoop (L:=fun i (_:Unit)=>L (i:Int)) a.length (fun i _=>(a.take i).all p=true) (fun y=>y=if a.all p then .inr () else .inl false) (s:=())
  (by
   intro i _ hi hj
   have hx:=List.getElem?_eq_getElem hi
   rw[show L (i:Int)=_ from hL _,lt_len,decide_eq_true hi,cond_true,getI_nat,hx,Option.bind_some,hf _ (List.getElem_mem hi),Option.bind_some,w64_succ (by omega)]
   cases hp:p a[i] with
   | true=>
    refine .inl ⟨(),?_,rfl⟩
    rw[List.take_add_one,hx,List.all_append,hj]
    simp[hp]
   | false=>
    refine .inr ⟨_,?_,rfl⟩
    rw[if_neg]
    intro h
    rw[List.all_eq_true] at h
    rw[h _ (List.getElem_mem hi)] at hp
    cases hp)
  (by
   intro _ hj
   refine⟨_,rfl,?_⟩
   rw[List.take_length] at hj
   rw[show L (a.length:Int)=_ from hL _,lt_len,decide_eq_false (by omega),cond_false,if_pos hj]) (by simp)
 rw[show L 0=some y from h2,h1]
theorem anyLoopG {ρ υ α:Type}{q:α→Bool}{y0 y1:ρ⊕υ}:∀{a:List α} {L:Nat→Option (ρ⊕υ)},(∀(i:Nat) x,a[i]?=some x→L i=bif q x then some y0 else L (i+1))→L a.length=some y1→L 0=some (if a.any q then y0 else y1)
 | [],L,_,he=>by simpa using he
 | x::a,L,hL,he=>by
  rw[hL 0 x rfl,anyLoopG (a:=a) (L:=fun i=>L (i+1)) (y0:=y0) (y1:=y1) (fun i z hz=>hL (i+1) z (by simpa using hz)) (by simpa using he),List.any_cons]
  cases q x<;>rfl
/-! conditions: the valid ones -/
def formB (c:Condition):Bool:=
 if c.Op=1 then decide (c.Parts.length=0)&&(decide (c.Name=[])&&decide (c.Day=0))
 else if c.Op=2 then decide (c.Parts.length=0)&&(nameB c.Name&&decide (c.Day=0))
 else if c.Op=3 then decide (c.Parts.length=0)&&(decide (c.Name=[])&&inB c.Day 0 36524)
 else if c.Op=4 then decide (c.Parts.length=1)&&(decide (c.Name=[])&&decide (c.Day=0))
 else if c.Op=5∨c.Op=6 then decide (c.Parts.length=2)&&(decide (c.Name=[])&&decide (c.Day=0))
 else false
mutual
def formsB:Condition→Bool
 | ⟨a0,a1,a2,a3⟩=>formB ⟨a0,a1,a2,a3⟩&&formsBs a3
def formsBs:List Condition→Bool
 | []=>true
 | x::xs=>formsB x&&formsBs xs
end
theorem formsBs_all:∀a,formsBs a=a.all formsB
 | []=>rfl
 | x::xs=>by simp[formsBs,formsBs_all xs]
theorem formsB_eq (c:Condition):formsB c=(formB c&&c.Parts.all formsB):=by cases c;simp only[formsB,formsBs_all]
theorem len_eq0 {α:Type}{a:List α}{n:Nat}:(len a==(n:Int))=decide (a.length=n):=by
 rw[int_beq]
 by_cases h:a.length=n
 ·rw[decide_eq_true h,decide_eq_true];simp only[len];omega
 ·rw[decide_eq_false h,decide_eq_false];simp only[len];omega
theorem spec_form (c:Condition)(hn:c.Name.length≤1048576):Ffci c=some (formB c):=by
 have l0:(len c.Parts==0)=decide (c.Parts.length=0):=len_eq0 (n:=0)
 have l1:(len c.Parts==1)=decide (c.Parts.length=1):=len_eq0 (n:=1)
 have l2:(len c.Parts==2)=decide (c.Parts.length=2):=len_eq0 (n:=2)
 unfold Ffci formB
 simp only[letJ_eq,spec_name _ hn,Option.bind_some,Ffch,spec_in,l0,l1,l2,str_beq,int_beq,cond_and]
 by_cases o1:c.Op=1
 ·simp only[o1,decide_true,cond_true,if_true]
 by_cases o2:c.Op=2
 ·rw[decide_eq_false o1,decide_eq_true o2,cond_false,cond_true,if_neg o1,if_pos o2]
  cases decide (c.Parts.length=0)<;>rfl
 by_cases o3:c.Op=3
 ·rw[decide_eq_false o1,decide_eq_false o2,decide_eq_true o3,cond_false,cond_false,cond_true,if_neg o1,if_neg o2,if_pos o3]
  cases decide (c.Parts.length=0)<;>cases decide (c.Name=[])<;>rfl
 by_cases o4:c.Op=4
 ·rw[decide_eq_false o1,decide_eq_false o2,decide_eq_false o3,decide_eq_true o4,if_neg o1,if_neg o2,if_neg o3,if_pos o4]
  rfl
 rw[decide_eq_false o1,decide_eq_false o2,decide_eq_false o3,decide_eq_false o4,if_neg o1,if_neg o2,if_neg o3,if_neg o4]
 by_cases o5:c.Op=5
 ·simp only[o5,decide_true,cond_true,cond_false,true_or,if_true]
 ·by_cases o6:c.Op=6
  ·rw[if_pos (.inr o6),decide_eq_false o5,decide_eq_true o6];rfl
  ·rw[if_neg (by omega),decide_eq_false o5,decide_eq_false o6];rfl
theorem spec_forms (c:Condition):sm_Condition c→Ffcj c=some (formsB c):=by
 refine rec_Condition (P:=fun c=>sm_Condition c→Ffcj c=some (formsB c)) ?_ c
 intro c ih hc
 rw[sm_Condition_iff] at hc
 rw[Ffcj_eq]
 unfold Ffcj_B
 rw[spec_form c hc.2.1,Option.bind_some,formsB_eq]
 cases formB c with
 | false=>rfl
 | true=>
  have hl:c.Parts.length≤1048576:=hc.2.2.2.1.1
  simp only[Bool.not_true,cond_false,Bool.true_and]
  rw[allLoop (L:=Ffcj_la (fixO Ffcj_G) c) (a:=c.Parts) (f:=fun e=>Ffcj e) (p:=formsB) (fun x hx=>ih x hx (hc.2.2.2.1.2 x hx)) (fun x=>by rw[Ffcj_la_eq,Ffcj_la_F]<;>rfl) (by omega)]
  cases c.Parts.all formsB<;>rfl
theorem nc_take (a:List Condition)(i:Nat)(h:i<a.length):nc_Conditions (a.take (i+1))=nc_Conditions (a.take i)+nc_Condition a[i]:=by
 have app:∀(x y:List Condition),nc_Conditions (x++y)=nc_Conditions x+nc_Conditions y:=by
  intro x y
  induction x with
  | nil=>simp[nc_Conditions]
  | cons z x ih=>simp only[List.cons_append,nc_Conditions,ih];omega
 rw[List.take_add_one,List.getElem?_eq_getElem h,app]
 simp[nc_Conditions]
theorem nc_take_le (a:List Condition)(i:Nat):nc_Conditions (a.take i)≤nc_Conditions a:=by
 have app:∀(x y:List Condition),nc_Conditions (x++y)=nc_Conditions x+nc_Conditions y:=by
  intro x y
  induction x with
  | nil=>simp[nc_Conditions]
  | cons z x ih=>simp only[List.cons_append,nc_Conditions,ih];omega
 have:=app (a.take i) (a.drop i)
 rw[List.take_append_drop] at this
 omega
theorem nc_mem {a:List Condition}{i:Nat}(h:i<a.length):nc_Condition a[i]≤nc_Conditions a:=by
 have h1:=nc_take a i h
 have h2:=nc_take_le a (i+1)
 omega
theorem spec_size (c:Condition):nc_Condition c≤2000000→Ffcq c=some ((nc_Condition c:Nat):Int):=by
 refine rec_Condition (P:=fun c=>nc_Condition c≤2000000→Ffcq c=some ((nc_Condition c:Nat):Int)) ?_ c
 intro c ih hc
 have hc':=nc_Condition_eq c
 have hcs:=nc_Conditions_eq c.Parts
 rw[Ffcq_eq]
 unfold Ffcq_B
 obtain⟨y,h1,h2⟩:=goLoop (L:=fun i (s:Int)=>Ffcq_la (fixO Ffcq_G) c (s,(i:Int))) c.Parts.length (fun i s=>s=((1+nc_Conditions (c.Parts.take i):Nat):Int)) (fun y=>y=.inr ((nc_Condition c:Nat):Int)) (s:=1)
  (by
   intro i s hi hj
   have hx:=List.getElem?_eq_getElem hi
   have h3:=nc_take c.Parts i hi
   have h4:=nc_take_le c.Parts (i+1)
   refine .inl ⟨((1+nc_Conditions (c.Parts.take (i+1)):Nat):Int),rfl,?_⟩
   show Ffcq_la (fixO Ffcq_G) c (s,(i:Int))=_
   rw[Ffcq_la_eq,Ffcq_la_F]
   simp only[lt_len,decide_eq_true hi,cond_true,getI_nat,hx,Option.bind_some]
   rw[show fixO Ffcq_G c.Parts[i]=some ((nc_Condition c.Parts[i]:Nat):Int) from ih _ (List.getElem_mem hi) (by omega),Option.bind_some,w64_succ (by omega),hj,w64_id (by omega) (by omega)]
   congr 2
   omega)
  (by
   intro s hj
   refine⟨_,rfl,?_⟩
   rw[List.take_length] at hj
   show Ffcq_la (fixO Ffcq_G) c (s,(c.Parts.length:Int))=_
   rw[Ffcq_la_eq,Ffcq_la_F]
   simp only[lt_len,decide_eq_false (Nat.lt_irrefl _),cond_false]
   rw[hj,hc']) (by simp[nc_Conditions])
 rw[show Ffcq_la (fixO Ffcq_G) c (1,0)=some y from h2,h1]
 rfl
/-- what makes a condition valid -/
def condB (c:Condition):Bool:=formsB c&&decide (nc_Condition c≤15)
theorem sm_nc {c:Condition}(h:sm_Condition c):nc_Condition c≤1048577:=by
 rw[sm_Condition_iff] at h
 rw[nc_Condition_eq]
 omega
theorem spec_cond (c:Condition)(h:sm_Condition c):Ffck c=some (condB c):=by
 unfold Ffck condB
 rw[spec_forms c h,Option.bind_some]
 cases formsB c with
 | false=>rfl
 | true=>
  have:=sm_nc h
  simp only[cond_true,Bool.true_and]
  rw[spec_size c (by omega),Option.bind_some,bindJ_inr]
  congr 1
  by_cases h:nc_Condition c≤15
  ·rw[decide_eq_true h,decide_eq_true (by omega)]
  ·rw[decide_eq_false h,decide_eq_false (by omega)]
def tabN (op:Int):Nat:=if op=4 then 1 else if op=5∨op=6 then 2 else 0
def preB (c:Condition):Bool:=inB c.Op 1 6&&decide (c.Parts.length=tabN c.Op)
def postB (c:Condition):Bool:=((c.Op==2) == !(c.Name==([]:Str)))&&((if c.Op=2 then nameB c.Name else true)&&((if c.Op=3 then true else decide (c.Day=0))&&inB c.Day 0 36524))
theorem inB_iff {x a b:Int}:inB x a b=true↔a≤x∧x≤b:=by simp[inB]
theorem impl_pre1 (c:Condition):((Ffq c.Op 1 6).bind fun r20=>bindL (ρ:=Int) (bif (!r20) then (some (.inr true)) else ((getI [(-1),0,0,0,1,2,2] c.Op).bind fun e22=>some (.inr ((len c.Parts) != e22)))) fun u21:Bool=>(some (.inr u21):Option (Int⊕Bool)))=some (.inr (!preB c)):=by
 rw[impl_in,Option.bind_some]
 unfold preB
 cases h:inB c.Op 1 6 with
 | false=>rfl
 | true=>
  rw[inB_iff] at h
  have ho:c.Op=1∨c.Op=2∨c.Op=3∨c.Op=4∨c.Op=5∨c.Op=6:=by omega
  have key:getI [(-1),0,0,0,1,2,2] c.Op=some ((tabN c.Op:Nat):Int):=by rcases ho with h | h | h | h | h | h<;>rw[h]<;>rfl
  simp only[Bool.not_true,cond_false,key,Option.bind_some,bindL_inr,Bool.true_and,bne,len_eq0]
theorem impl_pre2 (c:Condition)(hn:c.Name.length≤1048576):(bif (!((c.Op==2)==(!(c.Name==([]:Str))))) then (some (.inr true)) else (bindL (ρ:=Int) (bif (c.Op==2) then ((Ffe c.Name).bind fun r10=>bindL (ρ:=Int) (bif (!r10) then (some (.inr true)) else (bindL (ρ:=Int) (bif (c.Op != 3) then (bindL (ρ:=Int) (bif (c.Day != 0) then (some (.inr true)) else ((Ffo c.Day).bind fun r14=>some (.inr (!r14)))) fun u13:Bool=>some (.inr u13)) else ((Ffo c.Day).bind fun r15=>some (.inr (!r15)))) fun u12:Bool=>some (.inr u12))) fun u11:Bool=>some (.inr u11)) else (bindL (ρ:=Int) (bif (c.Op != 3) then (bindL (ρ:=Int) (bif (c.Day != 0) then (some (.inr true)) else ((Ffo c.Day).bind fun r18=>some (.inr (!r18)))) fun u17:Bool=>some (.inr u17)) else ((Ffo c.Day).bind fun r19=>some (.inr (!r19)))) fun u16:Bool=>some (.inr u16))) fun u9:Bool=>(some (.inr u9):Option (Int⊕Bool))))=some (.inr (!postB c)):=by
 unfold postB
 simp only[impl_name _ hn,Ffo,impl_in,Option.bind_some,int_bne]
 cases ((c.Op==2) == !(c.Name==([]:Str))) with
 | false=>rfl
 | true=>
  simp only[Bool.not_true,cond_false,Bool.true_and]
  by_cases o2:c.Op=2
  ·simp only[o2,if_true,show ((2:Int)==2)=true from rfl,cond_true,show ¬(2:Int)=3 by omega,if_false,decide_false,Bool.not_false]
   cases nameB c.Name<;>by_cases hd:c.Day=0<;>simp[hd]
  ·have:(c.Op==2)=false:=beq_eq_false_iff_ne.2 o2
   rw[this,cond_false,if_neg o2]
   by_cases o3:c.Op=3
   ·simp[o3]
   ·by_cases hd:c.Day=0<;>simp[o3,hd]
theorem form_split (c:Condition):formB c=(preB c&&postB c):=by
 have name0:c.Name=[]→nameB c.Name=false:=fun h=>by rw[h];rfl
 have d0:c.Day=0→inB c.Day 0 36524=true:=fun h=>by rw[h];rfl
 have in1:inB c.Op 1 6=decide (1≤c.Op∧c.Op≤6):=by rw[Bool.eq_iff_iff,inB_iff,decide_eq_true_iff]
 unfold formB preB postB
 rw[in1,show tabN c.Op=if c.Op=4 then 1 else if c.Op=5∨c.Op=6 then 2 else 0 from rfl]
 by_cases hn:c.Name=[]
 ·by_cases hd:c.Day=0
  ·by_cases o1:c.Op=1
   ·simp[o1,hn,hd,inB]
   by_cases o2:c.Op=2
   ·simp[o2,hn,hd,nameB]
   by_cases o3:c.Op=3
   ·simp[o3,hn,hd,inB]
   by_cases o4:c.Op=4
   ·simp[o4,hn,hd,inB]
   by_cases o5:c.Op=5
   ·simp[o5,hn,hd,inB]
   by_cases o6:c.Op=6
   ·simp[o6,hn,hd,inB]
   have:¬(1≤c.Op∧c.Op≤6):=by omega
   simp[o1,o2,o3,o4,o5,o6,decide_eq_false this]
  ·by_cases o3:c.Op=3
   ·simp[o3,hn]
   ·by_cases o2:c.Op=2<;>simp[o2,o3,hd]
 ·have hb:(c.Name==([]:Str))=false:=beq_eq_false_iff_ne.2 hn
  by_cases o2:c.Op=2
  ·by_cases hd:c.Day=0<;>simp[o2,hn,hd,inB,hb]
  ·simp[o2,hn,hb]
theorem impl_count (c:Condition):sm_Condition c→∀so:Nat,so≤15→Ffl c (so:Int)=some (if formsB c=true∧so+nc_Condition c≤15 then ((so+nc_Condition c:Nat):Int) else -1):=by
 refine rec_Condition (P:=fun c=>sm_Condition c→∀so:Nat,so≤15→Ffl c (so:Int)=some (if formsB c=true∧so+nc_Condition c≤15 then ((so+nc_Condition c:Nat):Int) else -1)) ?_ c
 intro c ih hc so hso
 rw[sm_Condition_iff] at hc
 have hnc:=nc_Condition_eq c
 rw[Ffl_eq]
 unfold Ffl_B
 rw[impl_pre1,impl_pre2 c hc.2.1,w64_succ (by omega),formsB_eq,form_split]
 by_cases h15:so+1≤15
 ·rw[decide_eq_false (by omega),cond_false]
  cases preB c with
  | false=>rfl
  | true=>
  cases postB c with
  | false=>rfl
  | true=>
   simp only[Bool.not_true,bindJ_inr,cond_false,Bool.true_and]
   obtain⟨y,h1,h2⟩:=goLoop (L:=fun i (s:Int)=>Ffl_la (fixO Ffl_G) c (so:Int) (s,(i:Int))) c.Parts.length
    (fun i s=>s=((so+1+nc_Conditions (c.Parts.take i):Nat):Int)∧so+1+nc_Conditions (c.Parts.take i)≤15∧(c.Parts.take i).all formsB=true)
    (fun y=>y=if c.Parts.all formsB=true∧so+nc_Condition c≤15 then .inr ((so+nc_Condition c:Nat):Int) else .inl (-1)) (s:=((so+1:Nat):Int))
    (by
     rintro i s hi ⟨hj,hj2,hj3⟩
     have hx:=List.getElem?_eq_getElem hi
     have h3:=nc_take c.Parts i hi
     have h4:=nc_take_le c.Parts (i+1)
     have h5:=ih _ (List.getElem_mem hi) (hc.2.2.2.1.2 _ (List.getElem_mem hi)) (so+1+nc_Conditions (c.Parts.take i)) hj2
     show (∃s',_∧Ffl_la (fixO Ffl_G) c (so:Int) (s,(i:Int))=_)∨∃y,_∧Ffl_la (fixO Ffl_G) c (so:Int) (s,(i:Int))=_
     rw[Ffl_la_eq,Ffl_la_F]
     simp only[lt_len,decide_eq_true hi,cond_true,getI_nat,hx,Option.bind_some,hj]
     rw[show fixO Ffl_G (c.Parts[i],((so+1+nc_Conditions (c.Parts.take i):Nat):Int))=_ from h5,Option.bind_some,w64_succ (by have:=hc.2.2.2.1.1;omega)]
     by_cases hq:formsB c.Parts[i]=true∧so+1+nc_Conditions (c.Parts.take i)+nc_Condition c.Parts[i]≤15
     ·rw[if_pos hq,decide_eq_false (by omega),cond_false]
      refine .inl ⟨_,⟨?_,?_,?_⟩,rfl⟩
      ·congr 1;omega
      ·omega
      ·rw[List.take_add_one,hx,List.all_append,hj3];simp[hq.1]
     ·rw[if_neg hq,decide_eq_true (by omega),cond_true]
      refine .inr ⟨_,?_,rfl⟩
      rw[if_neg]
      rintro⟨h6,h7⟩
      rw[List.all_eq_true] at h6
      exact hq ⟨h6 _ (List.getElem_mem hi),by omega⟩)
    (by
     rintro s ⟨hj,hj2,hj3⟩
     rw[List.take_length] at *
     show ∃y,_∧Ffl_la (fixO Ffl_G) c (so:Int) (s,(c.Parts.length:Int))=_
     rw[Ffl_la_eq,Ffl_la_F]
     simp only[lt_len,decide_eq_false (Nat.lt_irrefl _),cond_false]
     refine⟨_,?_,rfl⟩
     rw[if_pos ⟨hj3,by omega⟩,hj]
     congr 2;omega) ⟨by simp[nc_Conditions],by simp[nc_Conditions];omega,by simp⟩
   rw[show Ffl_la (fixO Ffl_G) c (so:Int) (((so+1:Nat):Int),0)=some y from h2,h1]
   by_cases hq:c.Parts.all formsB=true∧so+nc_Condition c≤15
   ·rw[if_pos hq,if_pos hq];rfl
   ·rw[if_neg hq,if_neg hq];rfl
 ·rw[decide_eq_true (by omega),cond_true,bindJ_inr,cond_true,if_neg (by omega)]
theorem impl_cond (c:Condition)(h:sm_Condition c):Ffc c=some (condB c):=by
 unfold Ffc condB
 rw[show (0:Int)=((0:Nat):Int) from rfl,impl_count c h 0 (by omega),Option.bind_some]
 have:=nc_Condition_eq c
 congr 1
 cases formsB c with
 | false=>rfl
 | true=>
  by_cases h:nc_Condition c≤15
  ·rw[if_pos ⟨rfl,by omega⟩,decide_eq_true (by omega),decide_eq_true h];rfl
  ·rw[if_neg (by omega),decide_eq_false h];rfl
/-! conditions: their names -/
mutual
def namesC:Condition→List Str
 | ⟨op,name,_,parts⟩=>(if op=2 then [name] else [])++namesCs parts
def namesCs:List Condition→List Str
 | []=>[]
 | x::xs=>namesC x++namesCs xs
end
theorem namesC_eq (c:Condition):namesC c=(if c.Op=2 then [c.Name] else [])++namesCs c.Parts:=by cases c;simp only[namesC]
theorem namesCs_app:∀(a b:List Condition),namesCs (a++b)=namesCs a++namesCs b
 | [],b=>rfl
 | x::a,b=>by simp only[List.cons_append,namesCs,namesCs_app a b,List.append_assoc]
theorem namesCs_take (a:List Condition)(i:Nat)(h:i<a.length):namesCs (a.take (i+1))=namesCs (a.take i)++namesC a[i]:=by
 rw[List.take_add_one,List.getElem?_eq_getElem h,namesCs_app]
 simp[namesCs]
mutual
theorem namesC_len:∀c,(namesC c).length≤nc_Condition c
 | ⟨op,name,day,parts⟩=>by
  have:=namesCs_len parts
  simp only[namesC,nc_Condition,List.length_append]
  split<;>simp<;>omega
theorem namesCs_len:∀a,(namesCs a).length≤nc_Conditions a
 | []=>by simp[namesCs]
 | x::a=>by
  have h1:=namesC_len x
  have h2:=namesCs_len a
  simp only[namesCs,nc_Conditions,List.length_append]
  omega
end
theorem impl_names (c:Condition):∀l:List Str,l.length+nc_Condition c≤1000000→Ffg c l=some (l++namesC c):=by
 refine rec_Condition (P:=fun c=>∀l:List Str,l.length+nc_Condition c≤1000000→Ffg c l=some (l++namesC c)) ?_ c
 intro c ih l hl
 have hnc:=nc_Condition_eq c
 have hpl:=nc_Conditions_eq c.Parts
 rw[Ffg_eq]
 unfold Ffg_B
 have h0:(bif (c.Op==2) then ((appI 16 l [c.Name]).bind fun a8=>some (.inr a8)) else (some (.inr l)):Option (List Str⊕List Str))=some (.inr (l++if c.Op=2 then [c.Name] else [])):=by
  rw[int_beq]
  by_cases h:c.Op=2
  ·rw[decide_eq_true h,cond_true,appI_one (by omega) (by omega),if_pos h];rfl
  ·rw[decide_eq_false h,cond_false,if_neg h,List.append_nil]
 rw[h0,bindJ_inr]
 have hlen:(l++if c.Op=2 then [c.Name] else []).length≤l.length+1:=by
  rw[List.length_append];split<;>simp
 rw[namesC_eq,←List.append_assoc]
 generalize (l++if c.Op=2 then [c.Name] else [])=l1 at hlen ⊢
 obtain⟨y,h1,h2⟩:=goLoop (L:=fun i (s:List Str)=>Ffg_la (fixO Ffg_G) c l ((i:Int),s)) c.Parts.length (fun i s=>s=l1++namesCs (c.Parts.take i)) (fun y=>y=.inr (l1++namesCs c.Parts)) (s:=l1)
  (by
   intro i s hi hj
   have hx:=List.getElem?_eq_getElem hi
   have h3:=nc_take c.Parts i hi
   have h4:=nc_take_le c.Parts (i+1)
   have h5:=namesCs_len (c.Parts.take i)
   refine .inl ⟨l1++namesCs (c.Parts.take (i+1)),rfl,?_⟩
   show Ffg_la (fixO Ffg_G) c l ((i:Int),s)=_
   rw[Ffg_la_eq,Ffg_la_F]
   simp only[lt_len,decide_eq_true hi,cond_true,getI_nat,hx,Option.bind_some]
   rw[show fixO Ffg_G (c.Parts[i],s)=_ from ih _ (List.getElem_mem hi) s (by rw[hj,List.length_append];omega),Option.bind_some,w64_succ (by omega),hj,namesCs_take _ _ hi,List.append_assoc])
  (by
   intro s hj
   refine⟨_,rfl,?_⟩
   rw[List.take_length] at hj
   show Ffg_la (fixO Ffg_G) c l ((c.Parts.length:Int),s)=_
   rw[Ffg_la_eq,Ffg_la_F]
   simp only[lt_len,decide_eq_false (Nat.lt_irrefl _),cond_false]
   rw[hj]) (by simp[namesCs])
 rw[show Ffg_la (fixO Ffg_G) c l (0,l1)=some y from h2,h1]
 rfl
/-- in a valid condition a fact and a day have no parts -/
theorem form_parts {c:Condition}(h:formB c=true)(ho:c.Op=2∨c.Op=3):c.Parts=[]:=by
 rw[form_split,preB,tabN] at h
 rw[Bool.and_eq_true,Bool.and_eq_true,decide_eq_true_iff] at h
 have:=h.1.2
 rw[if_neg (by omega),if_neg (by omega)] at this
 exact List.length_eq_zero_iff.1 this
theorem spec_names (c:Condition):formsB c=true→∀l:List Str,l.length+nc_Condition c≤1000000→l.Pairwise StrL.Lt→∃r,Ffcn l c=some r∧r.Pairwise StrL.Lt∧(∀x,x∈r↔x∈l∨x∈namesC c)∧r.length≤l.length+nc_Condition c:=by
 refine rec_Condition (P:=fun c=>formsB c=true→∀l:List Str,l.length+nc_Condition c≤1000000→l.Pairwise StrL.Lt→∃r,Ffcn l c=some r∧r.Pairwise StrL.Lt∧(∀x,x∈r↔x∈l∨x∈namesC c)∧r.length≤l.length+nc_Condition c) ?_ c
 intro c ih hf l hl hs
 have hnc:=nc_Condition_eq c
 have hpl:=nc_Conditions_eq c.Parts
 rw[formsB_eq,Bool.and_eq_true,List.all_eq_true] at hf
 rw[Ffcn_eq]
 unfold Ffcn_B
 rw[int_beq,namesC_eq]
 by_cases ho:c.Op=2
 ·obtain⟨r,e,r1,r2,r3⟩:=StrL.put_val l c.Name (by omega) hs
  rw[decide_eq_true ho,cond_true,e,if_pos ho,form_parts hf.1 (.inl ho)]
  exact⟨r,rfl,r1,fun x=>by rw[r2];simp[namesCs],by omega⟩
 rw[decide_eq_false ho,cond_false,if_neg ho,List.nil_append]
 obtain⟨y,h1,h2⟩:=goLoop (L:=fun i (s:List Str)=>Ffcn_la (fixO Ffcn_G) l c ((i:Int),s)) c.Parts.length
  (fun i s=>s.Pairwise StrL.Lt∧(∀x,x∈s↔x∈l∨x∈namesCs (c.Parts.take i))∧s.length≤l.length+nc_Conditions (c.Parts.take i))
  (fun y=>∃r,y=.inr r∧r.Pairwise StrL.Lt∧(∀x,x∈r↔x∈l∨x∈namesCs c.Parts)∧r.length≤l.length+nc_Condition c) (s:=l)
  (by
   rintro i s hi ⟨j1,j2,j3⟩
   have hx:=List.getElem?_eq_getElem hi
   have h3:=nc_take c.Parts i hi
   have h4:=nc_take_le c.Parts (i+1)
   obtain⟨r,e,r1,r2,r3⟩:=ih _ (List.getElem_mem hi) (hf.2 _ (List.getElem_mem hi)) s (by omega) j1
   refine .inl ⟨r,⟨r1,fun x=>?_,by omega⟩,?_⟩
   ·rw[r2,j2,namesCs_take _ _ hi,List.mem_append,or_assoc]
   show Ffcn_la (fixO Ffcn_G) l c ((i:Int),s)=_
   rw[Ffcn_la_eq,Ffcn_la_F]
   simp only[lt_len,decide_eq_true hi,cond_true,getI_nat,hx,Option.bind_some]
   rw[show fixO Ffcn_G (s,c.Parts[i])=_ from e,Option.bind_some,w64_succ (by omega)])
  (by
   rintro s ⟨j1,j2,j3⟩
   rw[List.take_length] at *
   refine⟨.inr s,⟨s,rfl,j1,j2,by omega⟩,?_⟩
   show Ffcn_la (fixO Ffcn_G) l c ((c.Parts.length:Int),s)=_
   rw[Ffcn_la_eq,Ffcn_la_F]
   simp only[lt_len,decide_eq_false (Nat.lt_irrefl _),cond_false]) ⟨hs,fun x=>by simp[namesCs],by simp[nc_Conditions]⟩
 obtain⟨r,rfl,hr⟩:=h1
 rw[show Ffcn_la (fixO Ffcn_G) l c (0,l)=some (.inr r) from h2]
 exact⟨r,rfl,hr⟩
/-! parties -/
theorem contains_str (l:List Str)(s:Str)(hl:l.length≤1048576):Ffcb l s=some (l.contains s):=by
 unfold Ffcb Ffce
 rw[idxLoop (L:=Ffce_la l s) (a:=l) (p:=fun e=>some (s==e)) (q:=fun e=>s==e) (fun _ _=>rfl) (fun x=>by rw[Ffce_la_eq,Ffce_la_F]<;>rfl) (by omega)]
 cases h:l.findIdx? (fun e=>s==e) with
 | none=>
  have:l.contains s=false:=by
   rw[List.findIdx?_eq_none_iff] at h
   rw[Bool.eq_false_iff]
   intro hc
   rw[List.contains_iff_exists_mem_beq] at hc
   obtain⟨w,hw,he⟩:=hc
   rw[h w hw] at he
   cases he
  rw[this]
  rfl
 | some i=>
  have:l.contains s=true:=by
   rw[List.findIdx?_eq_some_iff_getElem] at h
   obtain⟨hi,he,_⟩:=h
   rw[List.contains_iff_exists_mem_beq]
   exact⟨_,List.getElem_mem hi,he⟩
  rw[this]
  simp
theorem beq_swap (a b:Str):(a==b)=(b==a):=by
 rw[str_beq,str_beq]
 by_cases h:a=b
 ·simp[h]
 ·simp[h,Ne.symm h]
theorem has_str (l:List Str)(s:Str)(hl:l.length≤1048576):Ffcl l s=some (l.contains s):=by
 unfold Ffcl
 rw[anyLoop (L:=Ffcl_la l s) (a:=l) (p:=fun e=>some (e==s)) (q:=fun e=>e==s) (r:=true) (fun _ _=>rfl) (fun x=>by rw[Ffcl_la_eq,Ffcl_la_F]<;>rfl) (by omega)]
 have:(l.any fun e=>e==s)=l.contains s:=by
  rw[List.contains_eq_any_beq]
  congr 1
  funext e
  exact beq_swap e s
 rw[this]
 cases l.contains s<;>rfl
def badP (l:List Str)(k:Nat):Bool:=match l[k]? with
 | some e=>!nameB e||(l.take k).contains e
 | none=>false
def parB (l:List Str):Nat→Nat→Bool
 | 0,_=>true
 | n+1,k=>!badP l k&&parB l n (k+1)
theorem sub0_nat {α:Type}{l:List α}{k:Nat}(h:k≤l.length):subI l 0 (k:Int)=some (l.take k):=by
 unfold subI
 rw[if_pos (by omega)]
 simp
theorem spec_par_la (l:List Str)(cs:List Clause)(hl:smL smS l):∀(n k:Nat),k+n=l.length→Ffcw_la ⟨l,cs⟩ (k:Int)=some (bif parB l n k then .inr () else .inl false)
 | 0,k,hk=>by
  have h1:=hl.1
  rw[Ffcw_la_eq,Ffcw_la_F]
  simp only[lt_len]
  rw[decide_eq_false (by omega)]
  rfl
 | n+1,k,hk=>by
  have h1:=hl.1
  obtain⟨e,he⟩:∃e,l[k]?=some e:=⟨_,List.getElem?_eq_getElem (by omega)⟩
  rw[Ffcw_la_eq,Ffcw_la_F]
  simp only[lt_len]
  rw[decide_eq_true (by omega)]
  simp only[cond_true,getI_nat,he,Option.bind_some,spec_name e (hl.2 e (List.mem_of_getElem? he)),sub0_nat (show k≤l.length by omega),has_str _ e (show (l.take k).length≤1048576 by rw[List.length_take];omega)]
  rw[w64_succ (by omega),spec_par_la l cs hl n (k+1) (by omega)]
  simp only[parB,badP,he]
  cases nameB e<;>cases (l.take k).contains e<;>rfl
theorem impl_par_la (l:List Str)(hl:smL smS l):∀(n k:Nat),k+n=l.length→Ffh_la l (k:Int)=some (bif parB l n k then .inr () else .inl false)
 | 0,k,hk=>by
  have h1:=hl.1
  rw[Ffh_la_eq,Ffh_la_F]
  simp only[lt_len]
  rw[decide_eq_false (by omega)]
  rfl
 | n+1,k,hk=>by
  have h1:=hl.1
  obtain⟨e,he⟩:∃e,l[k]?=some e:=⟨_,List.getElem?_eq_getElem (by omega)⟩
  rw[Ffh_la_eq,Ffh_la_F]
  simp only[lt_len]
  rw[decide_eq_true (by omega)]
  simp only[cond_true,getI_nat,he,Option.bind_some,impl_name e (hl.2 e (List.mem_of_getElem? he)),sub0_nat (show k≤l.length by omega),contains_str _ e (show (l.take k).length≤1048576 by rw[List.length_take];omega)]
  rw[w64_succ (by omega),impl_par_la l hl n (k+1) (by omega)]
  simp only[parB,badP,he]
  cases nameB e<;>cases (l.take k).contains e<;>rfl
def parsB (l:List Str):Bool:=parB l l.length 0&&inB (len l) 2 4
theorem spec_par (l:List Str)(cs:List Clause)(hl:smL smS l):Ffcw ⟨l,cs⟩=some (parsB l):=by
 unfold Ffcw parsB
 have:=spec_par_la l cs hl l.length 0 (by omega)
 rw[show (0:Int)=((0:Nat):Int) by rfl,this]
 simp only[spec_in]
 cases parB l l.length 0<;>rfl
theorem impl_par (l:List Str)(hl:smL smS l):Ffh l=some (parsB l):=by
 unfold Ffh parsB
 have:=impl_par_la l hl l.length 0 (by omega)
 rw[show (0:Int)=((0:Nat):Int) by rfl,this]
 simp only[impl_in]
 cases parB l l.length 0<;>rfl
/-! contracts: the valid ones -/
def findC (cs:List Clause)(id:Str):Int:=match cs.findIdx? (fun e=>e.Id==id) with
 | some i=>(i:Int)
 | none=>-1
theorem spec_find (c:Contract)(id:Str)(hl:c.Clauses.length≤1048576):Ffct c id=some (findC c.Clauses id):=by
 unfold Ffct findC
 rw[idxLoop (L:=Ffct_la c id) (a:=c.Clauses) (p:=fun e=>some (e.Id==id)) (q:=fun e=>e.Id==id) (fun _ _=>rfl) (fun x=>by rw[Ffct_la_eq,Ffct_la_F]<;>rfl) (by omega)]
 cases c.Clauses.findIdx? (fun e=>e.Id==id)<;>rfl
theorem impl_find (c:Contract)(id:Str)(hl:c.Clauses.length≤1048576):Ffi c id=some (findC c.Clauses id):=by
 unfold Ffi Ffcc findC
 rw[idxLoop (L:=Ffcc_la c.Clauses id) (a:=c.Clauses) (p:=fun e=>some (e.Id==id)) (q:=fun e=>e.Id==id) (fun _ _=>rfl) (fun x=>by rw[Ffcc_la_eq,Ffcc_la_F]<;>rfl) (by omega)]
 cases c.Clauses.findIdx? (fun e=>e.Id==id)<;>rfl
theorem findC_b (cs:List Clause)(id:Str):findC cs id=-1∨∃j:Nat,findC cs id=(j:Int)∧j<cs.length:=by
 unfold findC
 cases h:cs.findIdx? (fun e=>e.Id==id) with
 | none=>exact .inl rfl
 | some j=>
  rw[List.findIdx?_eq_some_iff_getElem] at h
  exact .inr ⟨j,rfl,h.1⟩
def repB (cs:List Clause)(i:Int)(e:Clause):Bool:=match findC cs e.Repair with
 | .ofNat k=>match cs[k]? with
  | some e'=>((k:Int) != i)&&((e'.Kind==1)&&(e.Kind != 3))
  | none=>false
 | .negSucc _=>false
def clauseB (c:Contract)(i:Int)(e:Clause):Bool:=
 nameB e.Id&&(nameB e.Action&&(inB e.Kind 1 4&&(inB e.Party 0 (w64 (len c.Parties - 1))&&(inB e.Other 0 (w64 (len c.Parties - 1))&&(!(e.Party==e.Other)&&(condB e.When&&(inB e.Amount 0 1000000&&(inB e.Within 0 400&&(!(bif e.Kind != 1 then (bif e.Amount != 0 then true else e.Within != 0) else false) &&
  (bif e.Repair==[] then true else repB c.Clauses i e))))))))))
theorem spec_rep (c:Contract)(i:Int)(e:Clause)(hl:c.Clauses.length≤1048576):((Ffct c e.Repair).bind fun r8=>bindJ (ρ:=Bool) (bif (decide (r8≥0)) then (bindL (ρ:=Bool) (bif (r8 != i) then ((getI c.Clauses r8).bind fun e11=>letJ (bif (e11.Kind==1) then ((e.Kind != 3)) else (false)) fun u12:Bool=>some (.inr u12)) else (some (.inr false))) fun u10:Bool=>some (.inr u10)) else (some (.inr false))) fun u9:Bool=>some u9)=some (repB c.Clauses i e):=by
 rw[spec_find c _ hl,Option.bind_some]
 unfold repB
 rcases findC_b c.Clauses e.Repair with h | ⟨j,h,hj⟩
 ·rw[h];rfl
 ·rw[h,decide_eq_true (by omega),cond_true,getI_nat,List.getElem?_eq_getElem hj,Option.bind_some]
  show _=some (match c.Clauses[j]? with | some e'=>_ | none=>false)
  rw[List.getElem?_eq_getElem hj]
  show _=some (((j:Int) != i)&&((c.Clauses[j].Kind==1)&&(e.Kind != 3)))
  cases ((j:Int) != i)<;>cases (c.Clauses[j].Kind==1)<;>rfl
theorem impl_rep (c:Contract)(i:Int)(e:Clause)(hl:c.Clauses.length≤1048576):((Ffi c e.Repair).bind fun r10=>bindJ (ρ:=Bool) (bif (e.Kind != 3) then (bindL (ρ:=Bool) (bif (decide (r10≥0)) then (bindL (ρ:=Bool) (bif (r10 != i) then ((getI c.Clauses r10).bind fun e14=>some (.inr (e14.Kind==1))) else (some (.inr false))) fun u13:Bool=>some (.inr u13)) else (some (.inr false))) fun u12:Bool=>some (.inr u12)) else (some (.inr false))) fun u11:Bool=>some u11)=some (repB c.Clauses i e):=by
 rw[impl_find c _ hl,Option.bind_some]
 unfold repB
 rcases findC_b c.Clauses e.Repair with h | ⟨j,h,hj⟩
 ·rw[h];cases (e.Kind != 3)<;>rfl
 ·rw[h,decide_eq_true (by omega),cond_true,getI_nat,List.getElem?_eq_getElem hj,Option.bind_some]
  show _=some (match c.Clauses[j]? with | some e'=>_ | none=>false)
  rw[List.getElem?_eq_getElem hj]
  show _=some (((j:Int) != i)&&((c.Clauses[j].Kind==1)&&(e.Kind != 3)))
  cases ((j:Int) != i)<;>cases (c.Clauses[j].Kind==1)<;>cases (e.Kind != 3)<;>rfl
theorem spec_clause (c:Contract)(i:Int)(e:Clause)(he:getI c.Clauses i=some e)(hs:sm_Clause e)(hl:c.Clauses.length≤1048576):Ffcs c i=some (clauseB c i e):=by
 unfold Ffcs clauseB
 rw[he,Option.bind_some,spec_rep c i e hl]
 simp only[spec_name _ hs.1,spec_name _ hs.2.2.2.1,spec_in,spec_cond _ hs.2.2.2.2.2.2.1,Option.bind_some,letJ_eq]
 cases nameB e.Id with | false=>rfl | true=>?_
 cases nameB e.Action with | false=>rfl | true=>?_
 cases inB e.Kind 1 4 with | false=>rfl | true=>?_
 cases inB e.Party 0 (w64 (len c.Parties - 1)) with | false=>rfl | true=>?_
 cases inB e.Other 0 (w64 (len c.Parties - 1)) with | false=>rfl | true=>?_
 cases (e.Party==e.Other) with | true=>rfl | false=>?_
 cases condB e.When with | false=>rfl | true=>?_
 cases inB e.Amount 0 1000000 with | false=>rfl | true=>?_
 cases inB e.Within 0 400 with | false=>rfl | true=>?_
 cases (bif e.Kind != 1 then (bif e.Amount != 0 then true else e.Within != 0) else false) with | true=>rfl | false=>?_
 cases (e.Repair==([]:Str))<;>rfl
theorem impl_clause (c:Contract)(i:Int)(e:Clause)(he:getI c.Clauses i=some e)(hs:sm_Clause e)(hl:c.Clauses.length≤1048576):Ffn c i=some ((findC c.Clauses e.Id==i)&&clauseB c i e):=by
 unfold Ffn clauseB
 rw[he,Option.bind_some,impl_rep c i e hl]
 simp only[impl_name _ hs.1,impl_name _ hs.2.2.2.1,impl_in,impl_cond _ hs.2.2.2.2.2.2.1,Option.bind_some,letJ_eq,impl_find c _ hl,bne]
 cases nameB e.Id with | false=>cases (findC c.Clauses e.Id==i)<;>rfl | true=>?_
 cases (findC c.Clauses e.Id==i) with | false=>rfl | true=>?_
 cases nameB e.Action with | false=>rfl | true=>?_
 cases inB e.Kind 1 4 with | false=>rfl | true=>?_
 cases inB e.Party 0 (w64 (len c.Parties - 1)) with | false=>rfl | true=>?_
 cases inB e.Other 0 (w64 (len c.Parties - 1)) with | false=>rfl | true=>?_
 cases (e.Party==e.Other) with | true=>rfl | false=>?_
 cases condB e.When with | false=>rfl | true=>?_
 cases inB e.Amount 0 1000000 with | false=>rfl | true=>?_
 cases inB e.Within 0 400 with | false=>rfl | true=>?_
 cases (bif !(e.Kind==1) then (bif !(e.Amount==0) then true else !(e.Within==0)) else false) with | true=>rfl | false=>?_
 cases (e.Repair==([]:Str))<;>rfl
def okCl (c:Contract)(i:Nat):Bool:=match c.Clauses[i]? with
 | some e=>(findC c.Clauses e.Id==(i:Int))&&clauseB c (i:Int) e
 | none=>true
def clausesB (c:Contract):Bool:=!((List.range c.Clauses.length).any fun i=>!okCl c i)
theorem clausesB_iff {c:Contract}:clausesB c=true↔∀(i:Nat) e,c.Clauses[i]?=some e→findC c.Clauses e.Id=(i:Int)∧clauseB c (i:Int) e=true:=by
 unfold clausesB
 rw[Bool.not_eq_true',←Bool.not_eq_true,List.any_eq_true]
 constructor
 ·intro h i e he
  have hi:=(List.getElem?_eq_some_iff.1 he).1
  cases h1:okCl c i with
  | false=>exact absurd ⟨i,List.mem_range.2 hi,by rw[h1];rfl⟩ h
  | true=>
   simp only[okCl,he,Bool.and_eq_true,beq_iff_eq] at h1
   exact h1
 ·rintro h ⟨i,hi,h2⟩
  rw[List.mem_range] at hi
  have h1:=h i _ (List.getElem?_eq_getElem hi)
  simp only[okCl,List.getElem?_eq_getElem hi,h1.1,h1.2,beq_self_eq_true,Bool.and_self,Bool.not_true] at h2
  cases h2
theorem spec_good_la (c:Contract)(hc:sm_Contract c):Ffcu_la c 0=some (bif clausesB c then .inr () else .inl false):=by
 have hl:c.Clauses.length≤1048576:=hc.2.1
 have h:=anyLoopG (a:=List.range c.Clauses.length) (q:=fun i=>!okCl c i) (y0:=(Sum.inl false:Bool⊕Unit)) (y1:=.inr ()) (L:=fun i=>Ffcu_la c (i:Int))
  (fun i x hx=>by
   obtain⟨hi,hx'⟩:=List.getElem?_eq_some_iff.1 hx
   rw[List.getElem_range] at hx'
   subst hx'
   rw[List.length_range] at hi
   have he:=List.getElem?_eq_getElem hi
   have hg:getI c.Clauses (i:Int)=some c.Clauses[i]:=by rw[getI_nat,he]
   show Ffcu_la c (i:Int)=_
   rw[Ffcu_la_eq,Ffcu_la_F,lt_len,decide_eq_true hi,cond_true,hg,Option.bind_some,spec_find c _ hl,Option.bind_some,spec_clause c _ _ hg (hc.2.2 _ (List.getElem_mem hi)) hl,w64_succ (by omega)]
   simp only[okCl,he,bne]
   cases (findC c.Clauses c.Clauses[i].Id==(i:Int))<;>cases clauseB c (i:Int) c.Clauses[i]<;>rfl)
  (by
   rw[List.length_range]
   show Ffcu_la c (c.Clauses.length:Int)=_
   rw[Ffcu_la_eq,Ffcu_la_F,lt_len,decide_eq_false (Nat.lt_irrefl _),cond_false])
 rw[show Ffcu_la c 0=_ from h]
 unfold clausesB
 cases (List.range c.Clauses.length).any fun i=>!okCl c i<;>rfl
theorem impl_good_la (c:Contract)(hc:sm_Contract c):Ffd_la c 0=some (bif clausesB c then .inr () else .inl false):=by
 have hl:c.Clauses.length≤1048576:=hc.2.1
 have h:=anyLoopG (a:=List.range c.Clauses.length) (q:=fun i=>!okCl c i) (y0:=(Sum.inl false:Bool⊕Unit)) (y1:=.inr ()) (L:=fun i=>Ffd_la c (i:Int))
  (fun i x hx=>by
   obtain⟨hi,hx'⟩:=List.getElem?_eq_some_iff.1 hx
   rw[List.getElem_range] at hx'
   subst hx'
   rw[List.length_range] at hi
   have he:=List.getElem?_eq_getElem hi
   have hg:getI c.Clauses (i:Int)=some c.Clauses[i]:=by rw[getI_nat,he]
   show Ffd_la c (i:Int)=_
   rw[Ffd_la_eq,Ffd_la_F,lt_len,decide_eq_true hi,cond_true,impl_clause c _ _ hg (hc.2.2 _ (List.getElem_mem hi)) hl,Option.bind_some,w64_succ (by omega)]
   simp only[okCl,he])
  (by
   rw[List.length_range]
   show Ffd_la c (c.Clauses.length:Int)=_
   rw[Ffd_la_eq,Ffd_la_F,lt_len,decide_eq_false (Nat.lt_irrefl _),cond_false])
 rw[show Ffd_la c 0=_ from h]
 unfold clausesB
 cases (List.range c.Clauses.length).any fun i=>!okCl c i<;>rfl
/-- the names of a contract -/
def namesK (cs:List Clause):List Str:=cs.flatMap fun e=>e.Action::namesC e.When
theorem clauseB_cond {c:Contract}{i:Int}{e:Clause}(h:clauseB c i e=true):condB e.When=true:=by
 simp only[clauseB,Bool.and_eq_true] at h
 exact h.2.2.2.2.2.2.1
theorem namesK_take (cs:List Clause)(i:Nat)(h:i<cs.length):namesK (cs.take (i+1))=namesK (cs.take i)++(cs[i].Action::namesC cs[i].When):=by
 unfold namesK
 rw[List.take_add_one,List.getElem?_eq_getElem h,List.flatMap_append]
 simp
theorem names_ok (c:Contract)(hc:sm_Contract c)(h12:c.Clauses.length≤12)(hv:clausesB c=true):∃r,Ffcv c=some r∧Ffm c=some r∧r.Pairwise StrL.Lt∧(∀x,x∈r↔x∈namesK c.Clauses)∧r.length≤1000:=by
 have hcond:∀i (hi:i<c.Clauses.length),formsB c.Clauses[i].When=true∧nc_Condition c.Clauses[i].When≤15:=fun i hi=>by
  have h1:=clauseB_cond (clausesB_iff.1 hv i _ (List.getElem?_eq_getElem hi)).2
  unfold condB at h1
  rw[Bool.and_eq_true,decide_eq_true_iff] at h1
  exact h1
 have hs:∃r,Ffcv c=some r∧r.Pairwise StrL.Lt∧(∀x,x∈r↔x∈namesK c.Clauses)∧r.length≤16*c.Clauses.length:=by
  obtain⟨y,⟨r,rfl,hr⟩,h2⟩:=goLoop (L:=fun i (s:List Str)=>Ffcv_la c ((i:Int),s)) c.Clauses.length
   (fun i s=>s.Pairwise StrL.Lt∧(∀x,x∈s↔x∈namesK (c.Clauses.take i))∧s.length≤16*i)
   (fun y=>∃r,y=.inr r∧r.Pairwise StrL.Lt∧(∀x,x∈r↔x∈namesK c.Clauses)∧r.length≤16*c.Clauses.length) (s:=[])
   (by
    rintro i s hi ⟨j1,j2,j3⟩
    have he:=List.getElem?_eq_getElem hi
    obtain⟨f1,f2⟩:=hcond i hi
    obtain⟨r1,e1,p1,m1,l1⟩:=StrL.put_val s c.Clauses[i].Action (by omega) j1
    obtain⟨r2,e2,p2,m2,l2⟩:=spec_names _ f1 r1 (by omega) p1
    refine .inl ⟨r2,⟨p2,fun x=>?_,by omega⟩,?_⟩
    ·rw[m2,m1,j2,namesK_take _ _ hi,List.mem_append,List.mem_cons,or_assoc]
    ·show Ffcv_la c ((i:Int),s)=_
     rw[Ffcv_la_eq,Ffcv_la_F]
     simp only[lt_len,decide_eq_true hi,cond_true,getI_nat,he,Option.bind_some,e1,e2]
     rw[w64_succ (by omega)])
   (by
    rintro s ⟨j1,j2,j3⟩
    rw[List.take_length] at j2
    refine⟨.inr s,⟨s,rfl,j1,j2,j3⟩,?_⟩
    show Ffcv_la c ((c.Clauses.length:Int),s)=_
    rw[Ffcv_la_eq,Ffcv_la_F]
    simp only[lt_len,decide_eq_false (Nat.lt_irrefl _),cond_false]) ⟨List.Pairwise.nil,fun x=>by simp[namesK],by simp⟩
  refine⟨r,?_,hr⟩
  unfold Ffcv
  rw[show Ffcv_la c (0,[])=some (.inr r) from h2]
  rfl
 obtain⟨r,e,p,m,l⟩:=hs
 refine⟨r,e,?_,p,m,by omega⟩
 obtain⟨y,h1,h2⟩:=goLoop (L:=fun i (s:List Str)=>Ffm_la c ((i:Int),s)) c.Clauses.length
  (fun i s=>s=namesK (c.Clauses.take i)∧s.length≤16*i) (fun y=>y=.inr (namesK c.Clauses)∧(namesK c.Clauses).length≤16*c.Clauses.length) (s:=[])
  (by
   rintro i s hi ⟨j1,j2⟩
   have he:=List.getElem?_eq_getElem hi
   obtain⟨f1,f2⟩:=hcond i hi
   have hlen:=namesC_len c.Clauses[i].When
   refine .inl ⟨namesK (c.Clauses.take (i+1)),⟨rfl,?_⟩,?_⟩
   ·rw[namesK_take _ _ hi,←j1,List.length_append,List.length_cons];omega
   ·show Ffm_la c ((i:Int),s)=_
    rw[Ffm_la_eq,Ffm_la_F]
    simp only[lt_len,decide_eq_true hi,cond_true,getI_nat,he,Option.bind_some]
    rw[appI_one (by omega) (by omega),Option.bind_some,impl_names _ _ (by rw[List.length_append,List.length_singleton];omega),Option.bind_some,w64_succ (by omega),namesK_take _ _ hi,←j1,List.append_assoc]
    try rfl)
  (by
   rintro s ⟨j1,j2⟩
   rw[List.take_length] at j1
   refine⟨_,⟨rfl,by rw[←j1];exact j2⟩,?_⟩
   show Ffm_la c ((c.Clauses.length:Int),s)=_
   rw[Ffm_la_eq,Ffm_la_F]
   simp only[lt_len,decide_eq_false (Nat.lt_irrefl _),cond_false]
   rw[j1]) ⟨by simp[namesK],by simp⟩
 unfold Ffm
 rw[show Ffm_la c (0,[])=some y from h2,h1.1,bindJ_inr,Ffp_val _ r (by omega) p m]
 rfl
noncomputable def contrB (c:Contract):Bool:=(inB (len c.Clauses) 1 12&&parsB c.Parties)&&(clausesB c&&(match Ffcv c with | some r=>decide (len r≤16) | none=>false))
theorem spec_contract (c:Contract)(hc:sm_Contract c):Ffcu c=some (contrB c):=by
 unfold Ffcu contrB
 have hp:=spec_par c.Parties c.Clauses hc.1
 rw[spec_in,show Ffcw c=_ from hp,spec_good_la c hc,Option.bind_some]
 cases h1:inB (len c.Clauses) 1 12 with | false=>rfl | true=>?_
 cases parsB c.Parties with | false=>rfl | true=>?_
 cases h2:clausesB c with | false=>rfl | true=>?_
 rw[inB_iff] at h1
 obtain⟨r,e,_⟩:=names_ok c hc (by simp only[len] at h1;omega) h2
 rw[e]
 rfl
theorem impl_contract (c:Contract)(hc:sm_Contract c):Ffd c=some (contrB c):=by
 unfold Ffd contrB
 rw[impl_par c.Parties hc.1,impl_good_la c hc,Option.bind_some,impl_in]
 cases h1:inB (len c.Clauses) 1 12 with | false=>cases parsB c.Parties<;>rfl | true=>?_
 cases parsB c.Parties with | false=>rfl | true=>?_
 cases h2:clausesB c with | false=>rfl | true=>?_
 rw[inB_iff] at h1
 obtain⟨r,e,e2,_⟩:=names_ok c hc (by simp only[len] at h1;omega) h2
 rw[e,e2]
 rfl
/-- what a valid contract is -/
theorem contrB_facts {c:Contract}(h:contrB c=true):1≤c.Clauses.length∧c.Clauses.length≤12∧parsB c.Parties=true∧∀(i:Nat) e,c.Clauses[i]?=some e→findC c.Clauses e.Id=(i:Int)∧clauseB c (i:Int) e=true:=by
 simp only[contrB,Bool.and_eq_true,inB_iff] at h
 obtain⟨⟨⟨h1,h2⟩,h3⟩,h4,_⟩:=h
 simp only[len] at h1 h2
 exact⟨by omega,by omega,h3,clausesB_iff.1 h4⟩
/-! chains of repairs -/
theorem has_int (l:List Int)(n:Int)(hl:l.length≤1048576):Ffcg l n=some (l.contains n):=by
 unfold Ffcg
 rw[anyLoop (L:=Ffcg_la l n) (a:=l) (p:=fun e=>some (e==n)) (q:=fun e=>e==n) (r:=true) (fun _ _=>rfl) (fun x=>by rw[Ffcg_la_eq,Ffcg_la_F]<;>rfl) (by omega)]
 have:(l.any fun e=>e==n)=l.contains n:=by
  rw[List.contains_eq_any_beq]
  congr 1
  funext e
  exact Bool.beq_comm
 rw[this]
 cases l.contains n<;>rfl
theorem contains_int (l:List Int)(n:Int)(hl:l.length≤1048576):Ffca l n=some (l.contains n):=by
 unfold Ffca Ffcd
 rw[idxLoop (L:=Ffcd_la l n) (a:=l) (p:=fun e=>some (n==e)) (q:=fun e=>n==e) (fun _ _=>rfl) (fun x=>by rw[Ffcd_la_eq,Ffcd_la_F]<;>rfl) (by omega)]
 cases h:l.findIdx? (fun e=>n==e) with
 | none=>
  have:l.contains n=false:=by
   rw[List.findIdx?_eq_none_iff] at h
   rw[Bool.eq_false_iff]
   intro hc
   rw[List.contains_iff_exists_mem_beq] at hc
   obtain⟨w,hw,he⟩:=hc
   rw[h w hw] at he
   cases he
  rw[this]
  rfl
 | some i=>
  have:l.contains n=true:=by
   rw[List.findIdx?_eq_some_iff_getElem] at h
   obtain⟨hi,he,_⟩:=h
   rw[List.contains_iff_exists_mem_beq]
   exact⟨_,List.getElem_mem hi,he⟩
  rw[this]
  simp
theorem nodupI_le:∀(n:Nat) (l:List Int),l.Nodup→(∀x∈l,0≤x∧x<(n:Int))→l.length≤n
 | 0,[],_,_=>Nat.le_refl _
 | 0,x::l,_,h=>by have:=h x (by simp);omega
 | n+1,l,hd,h=>by
  by_cases hn:(n:Int)∈l
  ·have h1:=nodupI_le n (l.erase (n:Int)) (hd.erase _) (fun x hx=>by
    have h2:=h x (List.mem_of_mem_erase hx)
    have h3:x≠(n:Int):=fun e=>by rw[e,hd.mem_erase_iff] at hx;exact hx.1 rfl
    omega)
   rw[List.length_erase_of_mem hn] at h1
   omega
  ·have:=nodupI_le n l hd (fun x hx=>by
    have h2:=h x hx
    have h3:x≠(n:Int):=fun e=>hn (e▸hx)
    omega)
   omega
/-- In a valid contract a repair is a clause. -/
theorem rep_some {c:Contract}(h:contrB c=true){i:Nat}{e:Clause}(he:c.Clauses[i]?=some e)(hr:e.Repair≠[]):∃j:Nat,findC c.Clauses e.Repair=(j:Int)∧j<c.Clauses.length:=by
 have h1:=((contrB_facts h).2.2.2 i e he).2
 simp only[clauseB,Bool.and_eq_true] at h1
 obtain⟨_,_,_,_,_,_,_,_,_,_,h2⟩:=h1
 rw[show (e.Repair==([]:Str))=false from beq_eq_false_iff_ne.2 hr,cond_false] at h2
 rcases findC_b c.Clauses e.Repair with h3 | h3
 ·unfold repB at h2
  rw[h3] at h2
  cases h2
 ·exact h3
def ChainR (n:Nat)(l:List Int):Prop:=∀x∈l,0≤x∧x<(n:Int)
theorem chain_ex (c:Contract)(h:contrB c=true)(a b:Int):∀(k:Nat) (i:Nat) (out:List Int),i<c.Clauses.length→out.length+k=c.Clauses.length+1→out.Nodup→ChainR c.Clauses.length out→
  ∃l,ChainR c.Clauses.length l∧l.length≤c.Clauses.length∧((Ffcr_la c a ((i:Int),out)=some (.inl (l,true))∧Fff_la c b ((i:Int),out)=some (.inl (l,true,true)))∨(Ffcr_la c a ((i:Int),out)=some (.inr l)∧Fff_la c b ((i:Int),out)=some (.inr l))):=by
 obtain⟨_,h12,_,_⟩:=contrB_facts h
 intro k
 induction k with
 | zero=>
  intro i out hi hk hn hr
  have:=nodupI_le _ out hn hr
  omega
 | succ k ih=>
  intro i out hi hk hn hr
  have hlen:=nodupI_le _ out hn hr
  have he:=List.getElem?_eq_getElem hi
  have hg:getI c.Clauses (i:Int)=some c.Clauses[i]:=by rw[getI_nat,he]
  rw[Ffcr_la_eq,Ffcr_la_F,Fff_la_eq,Fff_la_F]
  simp only[hg,Option.bind_some]
  by_cases hq:c.Clauses[i].Repair=[]
  ·rw[hq]
   exact⟨out,hr,hlen,.inr ⟨rfl,rfl⟩⟩
  ·obtain⟨j,hj,hj2⟩:=rep_some h he hq
   rw[show (c.Clauses[i].Repair==([]:Str))=false from beq_eq_false_iff_ne.2 hq]
   simp only[Bool.not_false,cond_true,spec_find c _ (show c.Clauses.length≤1048576 by omega),impl_find c _ (show c.Clauses.length≤1048576 by omega),Option.bind_some,hj,has_int out _ (show out.length≤1048576 by omega),contains_int out _ (show out.length≤1048576 by omega)]
   cases hc:out.contains (j:Int) with
   | true=>exact⟨out,hr,hlen,.inl ⟨rfl,rfl⟩⟩
   | false=>
    rw[cond_false,cond_false,appI_one (by omega) (by omega),Option.bind_some,Option.bind_some]
    have hnm:(j:Int)∉out:=fun hm=>by
     rw[Bool.eq_false_iff] at hc
     exact hc (List.contains_iff_mem.2 hm)
    refine ih j (out++[(j:Int)]) hj2 (by rw[List.length_append,List.length_singleton];omega) (List.nodup_append.2 ⟨hn,by simp,fun x hx y hy=>?_⟩) fun x hx=>?_
    ·rw[List.mem_singleton] at hy
     subst hy
     exact fun e=>hnm (e▸hx)
    ·rcases List.mem_append.1 hx with hx | hx
     ·exact hr x hx
     ·rw[List.mem_singleton] at hx;subst hx;omega
/-- Both chains from a clause of a valid contract. -/
theorem chain_val (c:Contract)(h:contrB c=true)(hs:sm_Contract c)(i:Nat)(hi:i<c.Clauses.length):∃l cyc,ChainR c.Clauses.length l∧l.length≤c.Clauses.length∧Ffcr c (i:Int)=some (l,cyc)∧Fff c (i:Int)=some (l,cyc,true):=by
 obtain⟨_,h12,_,_⟩:=contrB_facts h
 obtain⟨l,h1,h2,h3⟩:=chain_ex c h (i:Int) (i:Int) c.Clauses.length i [(i:Int)] hi (by simp;omega) (by simp) (fun x hx=>by rw[List.mem_singleton] at hx;subst hx;omega)
 have hw:w64 (len c.Clauses - 1)=(c.Clauses.length:Int) - 1:=by simp only[len];exact w64_id (by omega) (by omega)
 have hin:inB (i:Int) 0 (w64 (len c.Clauses - 1))=true:=by rw[hw,inB_iff];omega
 unfold Ffcr Fff
 rw[impl_contract c hs,h,Option.bind_some,impl_in,hin]
 rcases h3 with⟨h3,h4⟩ | ⟨h3,h4⟩
 ·refine⟨l,true,h1,h2,?_,?_⟩
  ·rw[h3];rfl
  ·simp only[Bool.not_true,cond_false,Option.bind_some,bindJ_inr]
   rw[h4];rfl
 ·refine⟨l,false,h1,h2,?_,?_⟩
  ·rw[h3];rfl
  ·simp only[Bool.not_true,cond_false,Option.bind_some,bindJ_inr]
   rw[h4];rfl
/-! marks -/
theorem markText_loop (k0:Int):∀(n:Nat) (k:Int) (s:Str),k<((10 ^ n:Nat):Int)→k<9223372036854775808→s.length+n≤100→∃r,Ffbh_la k0 (k,s)=some (.inr r)∧r.length≤100
 | 0,k,s,hk,hb,hs=>by
  rw[Ffbh_la_eq,Ffbh_la_F,decide_eq_false (show ¬k>0 by simp at hk;omega),cond_false]
  exact⟨_,rfl,by show s.length≤100;omega⟩
 | n+1,k,s,hk,hb,hs=>by
  rw[Ffbh_la_eq,Ffbh_la_F]
  by_cases h:k>0
  ·rw[decide_eq_true h,cond_true]
   unfold catS
   have h10:k.tdiv 10=k / 10:=Int.tdiv_eq_ediv_of_nonneg (by omega)
   rw[if_pos (by simp only[List.length_map,List.length_cons,List.length_nil];omega),Option.bind_some,h10,w64_id (by omega) (by omega)]
   refine markText_loop k0 n (k / 10) _ ?_ (by omega) (by simp only[List.length_append,List.length_map,List.length_cons,List.length_nil];omega)
   rw[Nat.pow_succ] at hk
   omega
  ·rw[decide_eq_false h,cond_false]
   exact⟨_,rfl,by show s.length≤100;omega⟩
theorem markText_some (k:Int)(h:k≤4611686018427387904):∃r,Ffbh k=some r:=by
 unfold Ffbh
 by_cases h0:k≤0
 ·rw[decide_eq_true h0,cond_true]
  exact⟨_,rfl⟩
 ·rw[decide_eq_false h0,cond_false]
  obtain⟨r,hr,hl⟩:=markText_loop k 19 k [] (by omega) (by omega) (by decide)
  rw[hr]
  show ∃r',(catS [109] r).bind (fun s5=>some s5)=some r'
  unfold catS
  rw[if_pos (by simp only[List.length_cons,List.length_nil];omega),Option.bind_some]
  exact⟨_,rfl⟩
noncomputable def mkText (k:Int):Str:=(Ffbh k).getD []
theorem markText_eq {k:Int}(h:k≤4611686018427387904):Ffbh k=some (mkText k):=by
 obtain⟨r,hr⟩:=markText_some k h
 unfold mkText
 rw[hr]
 rfl
/-! marks of contracts -/
noncomputable def gStr (k:Int)(e:Str):Int×Str:=(k+1,mkText k)
theorem mark_StringS (a:List Str)(ha:a.length≤1048576){k:Int}(h0:0≤k)(hM:k≤1099511627776):∃k' a',Ffbg a k=some (k',a')∧a'.length=a.length∧k≤k'∧k'≤k+1048576:=by
 have h1:=markL_mono (g:=gStr) (fun k x=>by show k≤k+1;omega) (xs:=a) (k:=k)
 have h2:=markL_le (g:=gStr) (c:=1) (fun k x=>by show k+1≤k+(1:Nat);omega) (xs:=a) (k:=k)
 refine⟨(markL gStr k a).1,(markL gStr k a).2,?_,markL_len,h1,by omega⟩
 unfold Ffbg
 rw[markLoop (L:=Ffbg_la a k) (g:=gStr) (M:=4611686018427387904) (fun k x=>by show k≤k+1;omega) ?_ ?_ h0 (by omega) (by omega)]
 ·show (bif Nat.beq (markL gStr k a).2.length a.length then some ((markL gStr k a).1,(markL gStr k a).2) else none)=_
  rw[markL_len,Nat.beq_refl]
  rfl
 ·intro k i xs e h0 h1 hi he
  have h1':k+1≤4611686018427387904:=h1
  obtain⟨hi',_⟩:=List.getElem?_eq_some_iff.1 he
  have w1:w64 (k+1)=k+1:=w64_id (by omega) (by omega)
  rw[Ffbg_la_eq,Ffbg_la_F,lt_len,decide_eq_true hi',cond_true,markText_eq (by omega),Option.bind_some,getI_nat,he,Option.bind_some,setI_nat,w1,w64_succ (by omega)]
  rfl
 ·intro k i xs hi
  rw[Ffbg_la_eq,Ffbg_la_F,lt_len,decide_eq_false (show ¬i<xs.length by omega),cond_false]
def MkOk (a:List Condition):Prop:=∀k:Int,0≤k→k+((3*nc_Conditions a:Nat):Int)≤4611686018427387000→∃k' a',Ffbd a k=some (k',a')∧a'.length=a.length∧k≤k'∧k'≤k+((3*nc_Conditions a:Nat):Int)
theorem mark_conds (a:List Condition)(ha:a.length≤1048576)(ih:∀x∈a,MkOk x.Parts):MkOk a:=by
 intro k h0 hM
 rw[Ffbd_eq]
 unfold Ffbd_B
 obtain⟨y,⟨k',a',rfl,e1,e2,e3⟩,h2⟩:=goLoop (L:=fun i (s:Int×List Condition)=>Ffbd_la (fixO Ffbd_G) a k (s.1,(i:Int),s.2)) a.length
  (fun i s=>k≤s.1∧s.1≤k+((3*nc_Conditions (a.take i):Nat):Int)∧s.2.length=a.length∧∀j,i≤j→s.2[j]?=a[j]?)
  (fun y=>∃k' a',y=.inr (k',a')∧a'.length=a.length∧k≤k'∧k'≤k+((3*nc_Conditions a:Nat):Int)) (s:=(k,a))
  (by
   rintro i ⟨q,xs⟩ hi ⟨j1,j2,j3,j4⟩
   simp only at j1 j2 j3 j4
   have h3:=nc_take a i hi
   have h4:=nc_take_le a (i+1)
   have h5:=nc_Condition_eq a[i]
   have he:xs[i]?=some a[i]:=by rw[j4 i (Nat.le_refl _)];exact List.getElem?_eq_getElem hi
   have hi':i<xs.length:=by omega
   obtain⟨k',p',f1,f2,f3,f4⟩:=ih _ (List.getElem_mem hi) (q+3) (by omega) (by omega)
   have w1:w64 (q+1)=q+1:=w64_id (by omega) (by omega)
   have w2:w64 (q+1+1)=q+2:=by rw[w64_id (by omega) (by omega)];omega
   have w3:w64 (q+2+1)=q+3:=by rw[w64_id (by omega) (by omega)];omega
   refine .inl ⟨(k',xs.set i ⟨q,mkText (q+1),q+2,p'⟩),⟨by simp only;omega,by simp only;omega,by simpa using j3,fun j hj=>?_⟩,?_⟩
   ·rw[List.getElem?_set_ne (by omega)];exact j4 j (by omega)
   ·show Ffbd_la (fixO Ffbd_G) a k (q,(i:Int),xs)=_
    rw[Ffbd_la_eq,Ffbd_la_F]
    simp only[lt_len,decide_eq_true hi',cond_true,letJ_eq,getI_nat,setI_nat,he,Option.bind_some,w1,w2,w3,markText_eq (show q+1≤4611686018427387904 by omega),List.getElem?_set_self,List.length_set,hi',decide_true,List.set_set]
    rw[show fixO Ffbd_G (a[i].Parts,q+3)=_ from f1,Option.bind_some]
    simp only[f2,Nat.beq_refl,cond_true,w64_succ (show i<9223372036854775807 by omega)])
  (by
   rintro⟨q,xs⟩ ⟨j1,j2,j3,j4⟩
   simp only at j1 j2 j3 j4
   rw[List.take_length] at j2
   refine⟨_,⟨q,xs,rfl,j3,j1,j2⟩,?_⟩
   show Ffbd_la (fixO Ffbd_G) a k (q,(a.length:Int),xs)=_
   rw[Ffbd_la_eq,Ffbd_la_F]
   simp only[lt_len,decide_eq_false (show ¬a.length<xs.length by omega),cond_false])
  ⟨Int.le_refl k,by simp[nc_Conditions],rfl,fun _ _=>rfl⟩
 refine⟨k',a',?_,e1,e2,e3⟩
 rw[show Ffbd_la (fixO Ffbd_G) a k (k,0,a)=some (.inr (k',a')) from h2,bindJ_inr]
 simp only[e1,Nat.beq_refl,cond_true]
theorem mark_parts (c:Condition):nc_Conditions c.Parts≤1048576→MkOk c.Parts:=by
 refine rec_Condition (P:=fun c=>nc_Conditions c.Parts≤1048576→MkOk c.Parts) ?_ c
 intro c ih h
 have hl:=nc_Conditions_eq c.Parts
 refine mark_conds c.Parts (by omega) fun x hx=>ih x hx ?_
 obtain⟨i,hi,rfl⟩:=List.mem_iff_getElem.1 hx
 have h1:=nc_mem hi
 have h2:=nc_Condition_eq c.Parts[i]
 omega
theorem mark_ClauseS (a:List Clause)(ha:smL sm_Clause a){k:Int}(h0:0≤k)(hM:k≤1099511627776):∃k' a',Ffbc a k=some (k',a')∧a'.length=a.length∧k≤k'∧k'≤k+4000000*1048576:=by
 have hal:a.length≤1048576:=ha.1
 unfold Ffbc
 obtain⟨y,⟨k',a',rfl,e1,e2,e3⟩,h2⟩:=goLoop (L:=fun i (s:Int×List Clause)=>Ffbc_la a k (s.1,(i:Int),s.2)) a.length
  (fun i s=>k≤s.1∧s.1≤k+4000000*(i:Int)∧s.2.length=a.length∧∀j,i≤j→s.2[j]?=a[j]?)
  (fun y=>∃k' a',y=.inr (k',a')∧a'.length=a.length∧k≤k'∧k'≤k+4000000*1048576) (s:=(k,a))
  (by
   rintro i ⟨q,xs⟩ hi ⟨j1,j2,j3,j4⟩
   simp only at j1 j2 j3 j4
   have he:xs[i]?=some a[i]:=by rw[j4 i (Nat.le_refl _)];exact List.getElem?_eq_getElem hi
   have hi':i<xs.length:=by omega
   have hs:=(sm_Condition_iff _).1 (ha.2 _ (List.getElem_mem hi)).2.2.2.2.2.2.1
   have hnc:=hs.2.2.2.2
   obtain⟨k',p',f1,f2,f3,f4⟩:=mark_parts a[i].When hnc (q+9) (by omega) (by omega)
   have w1:w64 (q+1)=q+1:=w64_id (by omega) (by omega)
   have w2:w64 (q+1+1)=q+2:=by rw[w64_id (by omega) (by omega)];omega
   have w3:w64 (q+2+1)=q+3:=by rw[w64_id (by omega) (by omega)];omega
   have w4:w64 (q+3+1)=q+4:=by rw[w64_id (by omega) (by omega)];omega
   have w5:w64 (q+4+1)=q+5:=by rw[w64_id (by omega) (by omega)];omega
   have w6:w64 (q+5+1)=q+6:=by rw[w64_id (by omega) (by omega)];omega
   have w7:w64 (q+6+1)=q+7:=by rw[w64_id (by omega) (by omega)];omega
   have w8:w64 (q+7+1)=q+8:=by rw[w64_id (by omega) (by omega)];omega
   have w9:w64 (q+8+1)=q+9:=by rw[w64_id (by omega) (by omega)];omega
   have wa:w64 (k'+1)=k'+1:=w64_id (by omega) (by omega)
   have wb:w64 (k'+1+1)=k'+2:=by rw[w64_id (by omega) (by omega)];omega
   refine .inl ⟨(k'+2,xs.set i ⟨mkText q,q+1,q+2,mkText (q+3),q+4,q+5,⟨q+6,mkText (q+7),q+8,p'⟩,k',mkText (k'+1)⟩),⟨by simp only;omega,by simp only;omega,by simpa using j3,fun j hj=>?_⟩,?_⟩
   ·rw[List.getElem?_set_ne (by omega)];exact j4 j (by omega)
   ·show Ffbc_la a k (q,(i:Int),xs)=_
    rw[Ffbc_la_eq,Ffbc_la_F]
    simp only[lt_len,decide_eq_true hi',cond_true,letJ_eq,getI_nat,setI_nat,he,Option.bind_some,w1,w2,w3,w4,w5,w6,w7,w8,w9,markText_eq (show q≤4611686018427387904 by omega),markText_eq (show q+3≤4611686018427387904 by omega),markText_eq (show q+7≤4611686018427387904 by omega),List.getElem?_set_self,List.length_set,hi',decide_true,List.set_set,f1,f2,Nat.beq_refl,wa,wb,markText_eq (show k'+1≤4611686018427387904 by omega),w64_succ (show i<9223372036854775807 by omega)])
  (by
   rintro⟨q,xs⟩ ⟨j1,j2,j3,j4⟩
   simp only at j1 j2 j3 j4
   refine⟨_,⟨q,xs,rfl,j3,j1,by omega⟩,?_⟩
   show Ffbc_la a k (q,(a.length:Int),xs)=_
   rw[Ffbc_la_eq,Ffbc_la_F]
   simp only[lt_len,decide_eq_false (show ¬a.length<xs.length by omega),cond_false])
  ⟨Int.le_refl k,by omega,rfl,fun _ _=>rfl⟩
 refine⟨k',a',?_,e1,e2,e3⟩
 rw[show Ffbc_la a k (k,0,a)=some (.inr (k',a')) from h2,bindJ_inr]
 simp only[e1,Nat.beq_refl,cond_true]
theorem mark_Contract (c:Contract)(hc:sm_Contract c){k:Int}(h0:0≤k)(hM:k≤1000000):∃k',Ffbe c k=some k'∧k≤k'∧k'≤5000000000000:=by
 unfold Ffbe
 obtain⟨k1,a1,e1,l1,b1,b2⟩:=mark_StringS c.Parties hc.1.1 h0 (by omega)
 obtain⟨k2,a2,e2,l2,b3,b4⟩:=mark_ClauseS c.Clauses hc.2 (k:=k1) (by omega) (by omega)
 refine⟨k2,?_,by omega,?_⟩
 ·rw[e1,Option.bind_some]
  simp only[l1,Nat.beq_refl,cond_true,e2,Option.bind_some,l2]
 ·omega
/-! the days of events -/
noncomputable def gInt (k:Int)(e:Int):Int×Int:=(k+1,k)
theorem mark_IntS (a:List Int)(ha:a.length≤1048576){k:Int}(h0:0≤k)(hM:(markL gInt k a).1≤4611686018427387904):Ffbf a k=some (markL gInt k a):=by
 unfold Ffbf
 rw[markLoop (L:=Ffbf_la a k) (g:=gInt) (M:=4611686018427387904) (fun k x=>by show k≤k+1;omega) ?_ ?_ h0 hM (by omega)]
 ·show (bif Nat.beq (markL gInt k a).2.length a.length then some ((markL gInt k a).1,(markL gInt k a).2) else none)=_
  rw[markL_len,Nat.beq_refl]
  rfl
 ·intro k i xs e h0 h1 hi he
  have h1':k+1≤4611686018427387904:=h1
  obtain⟨hi',_⟩:=List.getElem?_eq_some_iff.1 he
  have w1:w64 (k+1)=k+1:=w64_id (by omega) (by omega)
  rw[Ffbf_la_eq,Ffbf_la_F,lt_len,decide_eq_true hi',cond_true]
  simp only[letJ_eq,getI_nat,setI_nat,he,Option.bind_some,w1,List.getElem?_set_self,List.length_set,hi',List.set_set,w64_succ (show i<9223372036854775807 by omega)]
  rfl
 ·intro k i xs hi
  rw[Ffbf_la_eq,Ffbf_la_F,lt_len,decide_eq_false (show ¬i<xs.length by omega),cond_false]
theorem held_IntS (a:List Int)(ha:a.length≤1048576){k:Int}(h0:0≤k)(hM:(markL gInt k a).1≤4611686018427387904):Ffbb (markL gInt k a).2 k=some (markL gInt k a).1:=by
 unfold Ffbb
 rw[heldLoop (H:=Ffbb_la (markL gInt k a).2 k) (g:=gInt) (M:=4611686018427387904) (a:=(markL gInt k a).2) (xs:=a) (fun k x=>by show k≤k+1;omega) ?_ ?_ h0 hM (by omega) rfl]
 ·rfl
 ·intro k' i e h0 h1 hi he
  have h1':k'+1≤4611686018427387904:=h1
  obtain⟨hi',_⟩:=List.getElem?_eq_some_iff.1 he
  have w1:w64 (k'+1)=k'+1:=w64_id (by omega) (by omega)
  rw[Ffbb_la_eq,Ffbb_la_F,lt_len,decide_eq_true hi',cond_true]
  simp only[getI_nat,he,Option.bind_some,w1,w64_succ (show i<9223372036854775807 by omega),gInt,bne_self_eq_false,beq_self_eq_true,Bool.not_true,cond_false]
 ·intro k' i hi
  rw[Ffbb_la_eq,Ffbb_la_F,lt_len,decide_eq_false (by omega),cond_false]
theorem markI_le (a:List Int)(ha:a.length≤1048576):1≤(markL gInt 1 a).1∧(markL gInt 1 a).1≤4611686018427387904:=by
 have h1:=markL_mono (g:=gInt) (fun k x=>by show k≤k+1;omega) (xs:=a) (k:=1)
 have h2:=markL_le (g:=gInt) (c:=1) (fun k x=>by show k+1≤k+(1:Nat);omega) (xs:=a) (k:=1)
 omega
/-! indices picked -/
def picks (p:Nat→Bool):Nat→List Int
 | 0=>[]
 | n+1=>picks p n++(bif p n then [(n:Int)] else [])
theorem picks_len (p:Nat→Bool):∀n,(picks p n).length≤n
 | 0=>Nat.le_refl _
 | n+1=>by
  have:=picks_len p n
  rw[picks,List.length_append]
  cases p n<;>simp<;>omega
theorem picks_congr {p q:Nat→Bool}:∀{n:Nat},(∀i,i<n→p i=q i)→picks p n=picks q n
 | 0,_=>rfl
 | n+1,h=>by rw[picks,picks,picks_congr (n:=n) fun i hi=>h i (by omega),h n (by omega)]
theorem pickLoop {ρ:Type}{L:Nat→List Int→Option (ρ⊕List Int)}(n:Nat)(hn:n≤1048576)(p:Nat→Bool)(hS:∀i out,i<n→out.length≤i→L i out=bif p i then ((appI 8 out [(i:Int)]).bind fun a=>L (i+1) a) else L (i+1) out)(hE:∀out,L n out=some (.inr out)):L 0 []=some (.inr (picks p n)):=by
 obtain⟨y,h1,h2⟩:=goLoop (L:=L) n (fun i s=>s=picks p i) (fun y=>y=.inr (picks p n)) (s:=[])
  (by
   rintro i s hi rfl
   have hl:=picks_len p i
   refine .inl ⟨picks p (i+1),rfl,?_⟩
   rw[hS i _ hi hl,picks]
   cases p i with
   | true=>rw[cond_true,appI_one (by omega) (by omega)];rfl
   | false=>rw[cond_false,cond_false,List.append_nil])
  (by rintro s rfl;exact⟨_,rfl,hE _⟩) rfl
 rw[h2,h1]
noncomputable def endB (c:Contract)(i:Nat):Bool:=match Ffcr c (i:Int) with
 | some r=>r.2
 | none=>false
theorem endless_val (c:Contract)(hs:sm_Contract c):∃r,Ffcf c=some r∧Ffa c=some r∧smL smI r.1:=by
 unfold Ffcf Ffa
 rw[spec_contract c hs,impl_contract c hs]
 cases h:contrB c with
 | false=>exact⟨_,rfl,rfl,by simp[smL]⟩
 | true=>
  obtain⟨h1,h12,_,hv⟩:=contrB_facts h
  have e1:=pickLoop (L:=fun i out=>Ffcf_la c ((i:Int),out)) c.Clauses.length (by omega) (endB c)
   (by
    intro i out hi ho
    obtain⟨l,cyc,_,_,c3,c4⟩:=chain_val c h hs i hi
    show Ffcf_la c ((i:Int),out)=_
    rw[Ffcf_la_eq,Ffcf_la_F]
    simp only[lt_len,decide_eq_true hi,cond_true,c3,Option.bind_some,endB,w64_succ (show i<9223372036854775807 by omega)]
    cases cyc<;>simp[bindL]<;>cases appI 8 out [(i:Int)]<;>rfl)
   (by
    intro out
    show Ffcf_la c ((c.Clauses.length:Int),out)=_
    rw[Ffcf_la_eq,Ffcf_la_F]
    simp only[lt_len,decide_eq_false (Nat.lt_irrefl _),cond_false])
  have e2:=pickLoop (L:=fun i out=>Ffk_la c c ((i:Int),out)) c.Clauses.length (by omega) (endB c)
   (by
    intro i out hi ho
    obtain⟨l,cyc,_,_,c3,c4⟩:=chain_val c h hs i hi
    show Ffk_la c c ((i:Int),out)=_
    rw[Ffk_la_eq,Ffk_la_F]
    unfold Ffb
    simp only[lt_len,decide_eq_true hi,cond_true,c3,c4,Option.bind_some,endB,w64_succ (show i<9223372036854775807 by omega)]
    cases cyc<;>simp[bindL]<;>cases appI 8 out [(i:Int)]<;>rfl)
   (by
    intro out
    show Ffk_la c c ((c.Clauses.length:Int),out)=_
    rw[Ffk_la_eq,Ffk_la_F]
    simp only[lt_len,decide_eq_false (Nat.lt_irrefl _),cond_false])
  refine⟨(picks (endB c) c.Clauses.length,true),?_,?_,?_⟩
  ·simp only[Option.bind_some,Bool.not_true,cond_false]
   rw[show Ffcf_la c (0,[])=_ from e1]
   rfl
  ·unfold Ffk
   simp only[Option.bind_some,Bool.not_true,cond_false]
   rw[show Ffk_la c c (0,[])=_ from e2]
   rfl
  ·have:=picks_len (endB c) c.Clauses.length
   exact⟨by show (picks (endB c) c.Clauses.length).length≤1048576;omega,fun _ _=>trivial⟩
theorem law_FnExactEndlessRepairs (c:Contract)(hc:Ffby c):laws_FnExactEndlessRepairs c=some true:=by
 unfold laws_FnExactEndlessRepairs
 obtain⟨r1,e1,q1⟩:=sz_Contract c hc (l:=1048576) (by decide) (by decide)
 rw[e1,Option.bind_some]
 rcases q1 with q1 | ⟨q1,p1,s1⟩
 ·rw[decide_eq_true q1,cond_true]
 rw[decide_eq_false (by omega),cond_false]
 obtain⟨v,g1,g2,s3⟩:=endless_val c s1
 obtain⟨km,m1,m2,m3⟩:=mark_Contract c s1 (k:=1) (by decide) (by decide)
 obtain⟨m4,m5⟩:=markI_le v.1 s3.1
 simp only[to_Contract c s1,Option.bind_some,g1,g2,eq_Contract c s1,eq_IntS v.1 s3,letJ_eq,bne_self_eq_false,beq_self_eq_true,Bool.not_true,cond_false,m1,mark_IntS v.1 s3.1 (by decide) m5,held_IntS v.1 s3.1 (by decide) m5,markL_len,Nat.beq_refl,cond_true,decide_eq_false (show ¬km<0 by omega),decide_eq_false (show ¬(markL gInt 1 v.1).1<0 by omega),bindJ]
end Go.Ln
