/-
  The plain law: the plain functions answer true.
-/
import Derived.Test.YtobhcnmeflacnaaGreatDoorFnExactHoldsNowLib
import Derived.Sort.AssemblyPlain
import Derived.Sort.LotD4
import Derived.Sort.LotD5
set_option linter.unusedVariables false
set_option linter.unusedSimpArgs false
set_option maxRecDepth 100000
namespace Go.Ln
open Go
theorem xr {α:Type}{b:Nat}{xs:List α}{y:α}(h:(xs.length+1)*b≤1099511627776)(h2:xs.length+1≤1099511627776):gO b xs [y]=some (xs++[y]):=by
 unfold gO
 rw[if_pos]
 simp only[List.length_cons,List.length_nil,jg,Nat.zero_add]
 omega
namespace StrL
theorem lt_irrefl:∀(a:ah),Op.bytesLess a a=false
 | []=>rfl
 | x::xs=>by
  have h:¬x<x:=by simp
  simp[Op.bytesLess,h,lt_irrefl xs]
theorem lt_trans:∀(a b c:ah),Op.bytesLess a b=true→Op.bytesLess b c=true→Op.bytesLess a c=true
 | _,[],_,h,_=>by simp[Op.bytesLess] at h
 | _,_::_,[],_,h=>by simp[Op.bytesLess] at h
 | [],_::_,_::_,_,_=>rfl
 | x::xs,y::ys,z::zs,h1,h2=>by
  simp only[Op.bytesLess,Bool.or_eq_true,decide_eq_true_eq,Bool.and_eq_true,beq_iff_eq] at h1 h2 ⊢
  rcases h1 with h1 | ⟨h1,h3⟩<;>rcases h2 with h2 | ⟨h2,h4⟩
  ·exact .inl (UInt8.lt_trans h1 h2)
  ·subst h2;exact .inl h1
  ·subst h1;exact .inl h2
  ·subst h1;subst h2;exact .inr ⟨rfl,lt_trans xs ys zs h3 h4⟩
def Lt (a b:ah):Prop:=Op.bytesLess a b=true
theorem tri (a b:ah):Lt a b∨a=b∨Lt b a:=by
 have:=Ij a b
 unfold Lt
 cases h:Op.bytesLess a b
 ·cases h2:a==b
  ·rw[h,h2] at this;exact .inr (.inr this.symm)
  ·exact .inr (.inl (by simpa using h2))
 ·exact .inl rfl
theorem Lt.irrefl {a:ah}(h:Lt a a):False:=by unfold Lt at h;rw[lt_irrefl] at h;cases h
theorem Lt.trans {a b c:ah}(h:Lt a b)(h2:Lt b c):Lt a c:=lt_trans a b c h h2
theorem Lt.asymm {a b:ah}(h:Lt a b)(h2:Lt b a):False:=(h.trans h2).irrefl
def Le (a b:ah):Prop:=¬Lt b a
theorem Le.lt_or {a b:ah}(h:Le a b):Lt a b∨a=b:=by
 rcases tri a b with h1 | h1 | h1
 ·exact .inl h1
 ·exact .inr h1
 ·exact (h h1).elim
theorem Le.trans {a b c:ah}(h:Le a b)(h2:Le b c):Le a c:=by
 intro h3
 rcases h.lt_or with h4 | rfl
 ·rcases h2.lt_or with h5 | rfl
  ·exact (h4.trans h5).asymm h3
  ·exact h h3
 ·exact h2 h3
theorem Lt.le {a b:ah}(h:Lt a b):Le a b:=fun h2=>h.asymm h2
theorem Lt.ne {a b:ah}(h:Lt a b):a≠b:=fun e=>by subst e;exact h.irrefl
theorem Le.le_lt {a b c:ah}(h:Le a b)(h2:Lt b c):Lt a c:=by
 rcases h.lt_or with h3 | rfl
 ·exact h3.trans h2
 ·exact h2
end StrL
namespace StrL
def fj (a:List ah)(j:Nat):Bool:=match j with
 | 0=>true
 | j+1=>match a[j]?,a[j+1]? with
  | some x,some y=>y != x
  | _,_=>true
def dd (a:List ah):List ah:=jA (fj a) a a.length
theorem EI {a:List ah}{k:Nat}(h:∀j x y,j+1<k→a[j]?=some x→a[j+1]?=some y→y≠x)(hn:k≤a.length):jA (fj a) a k=a.take k:=by
 have e:∀n,n≤k→jA (fj a) a n=a.take n:=by
  intro n
  induction n with
  | zero=>intro _;rfl
  | succ n ih=>
   intro hk
   have h1:n<a.length:=by omega
   have hx:=List.getElem?_eq_getElem h1
   rw[xT ?_ hx,ih (by omega),List.take_add_one,hx]
   ·rfl
   ·cases n with
    | zero=>rfl
    | succ n=>
     have h2:=List.getElem?_eq_getElem (show n<a.length by omega)
     simp only[fj,h2,hx]
     simpa using h n _ _ (by omega) h2 hx
 exact e k (Nat.le_refl k)
theorem KM {s z:List ah}{x j:Nat}(h1:x≤j)(h2:j<s.length):sw z (0+Int.toNat (x:Int)) (Int.toNat (len s) - Int.toNat (x:Int)) ((j:Int) - (x:Int))=z[j]?:=by
 unfold sw
 simp only[len,Int.toNat_natCast,Nat.zero_add]
 rw[if_pos (by omega),show x+((j:Int) - (x:Int)).toNat=j by omega]
theorem HW (s:List ah)(x:Nat)(hl:s.length≤1048576)(hx:x<s.length)(h0:jA (fj s) s (x+1)=s.take x):∃(i:Nat) (z:List ah),jc s (x:Int) ((x:Int),1,s)=some (.inr ((i:Int),z))∧z.length=s.length∧i≤z.length∧z.take i=dd s:=by
 have hD:=VS (L:=fun q:Int×Int×List ah=>jc s (x:Int) (q.1,q.2.1 - (x:Int),q.2.2)) (keep:=fj s) (a:=s) (i0:=x)
  (by
   intro i j z y hz hi hij hy hy2 hy3
   obtain⟨h1,_⟩:=List.getElem?_eq_some_iff.1 hy
   have h2:=List.getElem?_eq_getElem (show j - 1<s.length by omega)
   have h4:=List.getElem?_eq_getElem (show i<z.length by omega)
   show jc s (x:Int) ((i:Int),(j:Int) - (x:Int),z)=bif fj s j then jc s (x:Int) (((i+1:Nat):Int),((j+1:Nat):Int) - (x:Int),z.set i y) else jc s (x:Int) ((i:Int),((j+1:Nat):Int) - (x:Int),z)
   have w1:ar ((j:Int) - (x:Int) - 1)=((j - 1:Nat):Int) - (x:Int):=by rw[iO (by omega) (by omega)];omega
   have w2:ar ((j:Int) - (x:Int)+1)=((j+1:Nat):Int) - (x:Int):=by rw[iO (by omega) (by omega)];omega
   have c1:decide ((j:Int) - (x:Int)<(((Int.toNat (len s) - Int.toNat (x:Int)):Nat):Int))=true:=decide_eq_true (by simp only[len,Int.toNat_natCast];omega)
   rw[Aj,jO]
   simp only[c1,cond_true,w1,w2,KM (show x≤j by omega) h1,KM (show x≤j - 1 by omega) (show j - 1<s.length by omega),hy2,hy3,h2,Option.bind_some,bX,Hp,h4,cC (show i<9223372036854775807 by omega)]
   have hk:fj s j=(y != s[j - 1]):=by
    cases j with
    | zero=>omega
    | succ j=>
     simp only[fj,hy,show j+1 - 1=j by omega] at h2 ⊢
     simp only[h2]
   rw[hk]
   show _=bif !(y==s[j - 1]) then _ else _
   cases y==s[j - 1]<;>rfl)
  (by
   intro i j z hz hi hij hj
   show jc s (x:Int) ((i:Int),(j:Int) - (x:Int),z)=_
   have c1:decide ((j:Int) - (x:Int)<(((Int.toNat (len s) - Int.toNat (x:Int)):Nat):Int))=false:=decide_eq_false (by simp only[len,Int.toNat_natCast];omega)
   rw[Aj,jO]
   simp only[c1,cond_false])
  h0 hx
 simp only[show ((x+1:Nat):Int) - (x:Int)=1 by omega] at hD
 exact hD
theorem vp (s:List ah)(hl:s.length≤1048576):∀(n k:Nat),k+n=s.length→1≤k→(∀j x y,j+1<k→s[j]?=some x→s[j+1]?=some y→y≠x)→∃y,oK s (k:Int)=some y∧(y=.inl (dd s)∨y=.inr (dd s))
 | 0,k,hk,h1,h=>by
  refine⟨.inr s,?_,.inr ?_⟩
  ·rw[A6,jL,bK,decide_eq_false (by omega),cond_false]
  ·unfold dd
   rw[EI (k:=s.length) (fun j x y hj=>h j x y (by omega)) (Nat.le_refl _),List.take_length]
 | n+1,k,hk,h1,h=>by
  have h2:k<s.length:=by omega
  have e1:=List.getElem?_eq_getElem h2
  have e2:=List.getElem?_eq_getElem (show k - 1<s.length by omega)
  have w1:ar ((k:Int) - 1)=((k - 1:Nat):Int):=by rw[iO (by omega) (by omega)];omega
  rw[A6,jL,bK,decide_eq_true h2,cond_true,w1,bX,bX,e1,e2,Option.bind_some,Option.bind_some,cC (by omega)]
  by_cases hq:s[k]=s[k - 1]
  ·rw[beq_iff_eq.2 hq,cond_true]
   have e3:gJ s.length (k:Int) (len s)=some ():=by unfold gJ;rw[if_pos (by simp only[len];omega)]
   have hno:fj s k=false:=by
    cases k with
    | zero=>omega
    | succ k=>
     simp only[show k+1 - 1=k by omega] at e2 hq
     simp only[fj,e1,e2,hq,bne_self_eq_false]
   obtain⟨i,z,e,hz,hi,ht⟩:=HW s k hl h2 (by rw[Ez hno,EI h (by omega)])
   rw[e3,Option.bind_some,e,fH]
   refine⟨.inl (dd s),?_,.inl rfl⟩
   rw[←ht]
   exact ZF (c:=([]:ah)) (F:=fun p19=>some (Sum.inl p19)) hi
  ·rw[beq_eq_false_iff_ne.2 hq,cond_false]
   refine vp s hl n (k+1) (by omega) (by omega) fun j x y hj hx hy=>?_
   by_cases hj2:j+1<k
   ·exact h j x y hj2 hx hy
   ·obtain rfl:k=j+1:=by omega
    simp only[show j+1 - 1=j by omega] at e2 hq
    rw[e2] at hx
    rw[e1] at hy
    cases hx
    cases hy
    exact hq
theorem compact_val (s:List ah)(hl:s.length≤1048576):xZ s=some (dd s):=by
 unfold xZ
 by_cases h:len s<2
 ·rw[decide_eq_true h,cond_true]
  have h':s.length<2:=by simp only[len] at h;omega
  unfold dd
  rw[EI (k:=s.length) (fun j x y hj=>by omega) (Nat.le_refl _),List.take_length]
 ·rw[decide_eq_false h,cond_false]
  have h':¬s.length<2:=by simp only[len] at h;omega
  obtain⟨y,hy,hq⟩:=vp s hl (s.length - 1) 1 (by omega) (Nat.le_refl _) (fun j x y hj=>by omega)
  rw[show oK s 1=some y from hy]
  rcases hq with rfl | rfl<;>rfl
end StrL
namespace StrL
theorem FV {a:List ah}(hs:a.Pairwise Le):∀n,n≤a.length→(jA (fj a) a n).Pairwise Lt∧∀x,x∈jA (fj a) a n↔x∈a.take n
 | 0,_=>by
  have e:jA (fj a) a 0=[]:=rfl
  rw[e]
  exact⟨List.Pairwise.nil,fun x=>by simp⟩
 | n+1,hn=>by
  obtain⟨h1,h2⟩:=FV hs n (by omega)
  have hlt:n<a.length:=by omega
  have hx:=List.getElem?_eq_getElem hlt
  have hle:∀y∈a.take n,Le y a[n]:=by
   intro y hy
   obtain⟨i,hi,rfl⟩:=List.mem_iff_getElem.1 hy
   rw[List.length_take] at hi
   rw[List.getElem_take]
   exact List.pairwise_iff_getElem.1 hs i n (by omega) hlt (by omega)
  cases hk:fj a n with
  | true=>
   rw[xT hk hx]
   have hstrict:∀y∈a.take n,Lt y a[n]:=by
    intro y hy
    cases n with
    | zero=>simp at hy
    | succ j=>
     have h3:=List.getElem?_eq_getElem (show j<a.length by omega)
     have hne:a[j+1]≠a[j]:=by
      simp only[fj,h3,hx] at hk
      simpa using hk
     have hj:Le a[j] a[j+1]:=List.pairwise_iff_getElem.1 hs j (j+1) (by omega) hlt (by omega)
     obtain⟨i,hi,rfl⟩:=List.mem_iff_getElem.1 hy
     rw[List.length_take] at hi
     rw[List.getElem_take]
     have hlt2:Lt a[j] a[j+1]:=hj.lt_or.resolve_right fun e=>hne e.symm
     by_cases e:i=j
     ·subst e;exact hlt2
     ·have:=List.pairwise_iff_getElem.1 hs i j (by omega) (by omega) (by omega)
      exact this.le_lt hlt2
   refine⟨List.pairwise_append.2 ⟨h1,List.pairwise_singleton _ _,fun y hy z hz=>?_⟩,fun x=>?_⟩
   ·rw[List.mem_singleton] at hz
    subst hz
    exact hstrict y ((h2 y).1 hy)
   ·rw[List.take_add_one,hx,List.mem_append,List.mem_append,h2]
    rfl
  | false=>
   rw[Ez hk]
   refine⟨h1,fun x=>?_⟩
   rw[h2,List.take_add_one,hx,List.mem_append]
   constructor
   ·exact .inl
   ·rintro (h | h)
    ·exact h
    ·have e:x=a[n]:=by simpa using h
     subst e
     cases n with
     | zero=>simp[fj] at hk
     | succ j=>
      have h3:=List.getElem?_eq_getElem (show j<a.length by omega)
      simp only[fj,h3,hx] at hk
      have e:a[j+1]=a[j]:=by simpa using hk
      rw[e]
      have:a[j]∈a.take (j+1):=by
       rw[List.mem_iff_getElem]
       exact⟨j,by rw[List.length_take];omega,by rw[List.getElem_take]⟩
      exact this
theorem dd_ok {a:List ah}(hs:a.Pairwise Le):(dd a).Pairwise Lt∧∀x,x∈dd a↔x∈a:=by
 have:=FV hs a.length (Nat.le_refl _)
 rw[List.take_length] at this
 exact this
theorem asc_uniq:∀{a b:List ah},a.Pairwise Lt→b.Pairwise Lt→(∀x,x∈a↔x∈b)→a=b
 | [],[],_,_,_=>rfl
 | [],y::b,_,_,h=>absurd ((h y).2 (by simp)) (by simp)
 | x::a,[],_,_,h=>absurd ((h x).1 (by simp)) (by simp)
 | x::a,y::b,ha,hb,h=>by
  rw[List.pairwise_cons] at ha hb
  have e:x=y:=by
   have h1:=(h x).1 (by simp)
   have h2:=(h y).2 (by simp)
   rw[List.mem_cons] at h1 h2
   rcases h1 with h1 | h1
   ·exact h1
   ·rcases h2 with h2 | h2
    ·exact h2.symm
    ·exact ((ha.1 y h2).asymm (hb.1 x h1)).elim
  subst e
  rw[asc_uniq ha.2 hb.2 fun z=>?_]
  constructor
  ·intro hz
   have h1:=(h z).1 (List.mem_cons_of_mem _ hz)
   rcases List.mem_cons.1 h1 with e | h1
   ·subst e;exact (ha.1 z hz).irrefl.elim
   ·exact h1
  ·intro hz
   have h1:=(h z).2 (List.mem_cons_of_mem _ hz)
   rcases List.mem_cons.1 h1 with e | h1
   ·subst e;exact (hb.1 z hz).irrefl.elim
   ·exact h1
theorem Jl {b:Nat}{xs ys:List ah}(h:(xs.length+ys.length)*b≤1099511627776)(h2:xs.length+ys.length≤1099511627776):gO b xs ys=some (xs++ys):=by
 unfold gO
 rw[if_pos]
 simp only[jg]
 omega
theorem HC (l:List ah)(n:ah)(m:Nat)(hm:m≤l.length)(hl:l.length≤1048576)(h1:∀(j:Nat) x,j<m→l[j]?=some x→Lt x n)(h2:∀x,l[m]?=some x→¬Lt x n):∀(k j:Nat),j+k=m→rB l n (j:Int)=some (.inr (n,(m:Int),l))
 | 0,j,hj=>by
  obtain rfl:j=m:=by omega
  rw[DZ,jp,bK]
  by_cases h:j<l.length
  ·rw[decide_eq_true h,cond_true,bX,List.getElem?_eq_getElem h,Option.bind_some,fH,show Op.bytesLess l[j] n=false from by simpa[Lt] using h2 _ (List.getElem?_eq_getElem h),cond_false]
  ·rw[decide_eq_false h,cond_false,fH,cond_false]
 | k+1,j,hj=>by
  have h:j<l.length:=by omega
  rw[DZ,jp,bK,decide_eq_true h,cond_true,bX,List.getElem?_eq_getElem h,Option.bind_some,fH,show Op.bytesLess l[j] n=true from h1 j _ (by omega) (List.getElem?_eq_getElem h),cond_true,cC (by omega)]
  exact HC l n m hm hl h1 h2 k (j+1) (by omega)
theorem put_val (l:List ah)(n:ah)(hl:l.length≤1000000)(hs:l.Pairwise Lt):∃r,uz l n=some r∧r.Pairwise Lt∧(∀x,x∈r↔x∈l∨x=n)∧r.length≤l.length+1:=by
 have key:∃m,m≤l.length∧(∀(j:Nat) x,j<m→l[j]?=some x→Lt x n)∧(∀x,l[m]?=some x→¬Lt x n):=by
  clear hl
  induction l with
  | nil=>exact⟨0,by simp,fun j x hj=>by omega,fun x hx=>by simp at hx⟩
  | cons y l ih=>
   by_cases hy:Lt y n
   ·obtain⟨m,h1,h2,h3⟩:=ih (List.pairwise_cons.1 hs).2
    refine⟨m+1,by simp;omega,fun j x hj hx=>?_,fun x hx=>h3 x (by simpa using hx)⟩
    cases j with
    | zero=>simp at hx;subst hx;exact hy
    | succ j=>exact h2 j x (by omega) (by simpa using hx)
   ·exact⟨0,by simp,fun j x hj=>by omega,fun x hx=>by simp at hx;subst hx;exact hy⟩
 obtain⟨m,hm,h1,h2⟩:=key
 have hlow:∀x∈l.take m,Lt x n:=by
  intro x hx
  obtain⟨i,hi,rfl⟩:=List.mem_iff_getElem.1 hx
  rw[List.length_take] at hi
  rw[List.getElem_take]
  exact h1 i _ (by omega) (List.getElem?_eq_getElem (by omega))
 have hloop:=HC l n m hm (by omega) h1 h2 m 0 (by omega)
 rw[show ((0:Nat):Int)=0 from rfl] at hloop
 unfold uz
 rw[hloop]
 simp only[dt,bK]
 have s1:gJ l.length 0 (m:Int)=some ():=by unfold gJ;rw[if_pos (by omega)]
 have s2:gJ l.length (m:Int) (len l)=some ():=by unfold gJ;rw[if_pos (by simp only[len];omega)]
 have p1:gW l (0+Int.toNat 0) (Int.toNat (m:Int) - Int.toNat 0)=some (l.take m):=by
  unfold gW
  simp only[Int.toNat_zero,Int.toNat_natCast,Nat.zero_add,Nat.sub_zero,List.drop_zero]
  rw[if_pos hm]
 have p2:gW l (0+Int.toNat (m:Int)) (Int.toNat (len l) - Int.toNat (m:Int))=some (l.drop m):=by
  unfold gW
  simp only[Int.toNat_natCast,Nat.zero_add,len]
  rw[if_pos (by omega),List.take_of_length_le (by rw[List.length_drop];omega)]
 have a1:gO 16 ([]:List ah) (l.take m)=some (l.take m):=by rw[Jl (by simp only[List.length_nil,List.length_take];omega) (by simp only[List.length_nil,List.length_take];omega)];rfl
 have a2:gO 16 (l.take m) [n]=some (l.take m++[n]):=xr (by rw[List.length_take];omega) (by rw[List.length_take];omega)
 have a3:gO 16 (l.take m++[n]) (l.drop m)=some (l.take m++[n]++l.drop m):=Jl (by simp only[List.length_append,List.length_take,List.length_drop,List.length_singleton];omega) (by simp only[List.length_append,List.length_take,List.length_drop,List.length_singleton];omega)
 have hins:(∀x∈l.drop m,Lt n x)→(l.take m++[n]++l.drop m).Pairwise Lt∧(∀x,x∈l.take m++[n]++l.drop m↔x∈l∨x=n)∧(l.take m++[n]++l.drop m).length≤l.length+1:=by
  intro hhi
  have hs2:=hs
  rw[←List.take_append_drop m l,List.pairwise_append] at hs2
  refine⟨List.pairwise_append.2 ⟨List.pairwise_append.2 ⟨hs2.1,List.pairwise_singleton _ _,fun x hx y hy=>?_⟩,hs2.2.1,fun x hx y hy=>?_⟩,fun x=>?_,?_⟩
  ·rw[List.mem_singleton] at hy;subst hy;exact hlow x hx
  ·rcases List.mem_append.1 hx with hx | hx
   ·exact hs2.2.2 x hx y hy
   ·rw[List.mem_singleton] at hx;subst hx;exact hhi y hy
  ·have:x∈l↔x∈l.take m∨x∈l.drop m:=by
    rw[←List.mem_append,List.take_append_drop]
   rw[List.mem_append,List.mem_append,List.mem_singleton,this]
   constructor
   ·rintro ((h | h) | h)
    ·exact .inl (.inl h)
    ·exact .inr h
    ·exact .inl (.inr h)
   ·rintro ((h | h) | h)
    ·exact .inl (.inl h)
    ·exact .inr h
    ·exact .inl (.inr h)
  ·simp only[List.length_append,List.length_take,List.length_drop,List.length_singleton];omega
 by_cases hb:m<l.length
 ·have hx:=List.getElem?_eq_getElem hb
  have hge:=h2 _ hx
  have hrest:∀x∈l.drop (m+1),Lt l[m] x:=by
   intro x hx
   obtain⟨i,hi,rfl⟩:=List.mem_iff_getElem.1 hx
   rw[List.length_drop] at hi
   rw[List.getElem_drop]
   exact List.pairwise_iff_getElem.1 hs m (m+1+i) hb (by omega) (by omega)
  rw[decide_eq_true hb,cond_true,bX,hx,Option.bind_some,dt,vC]
  by_cases he:l[m]=n
  ·rw[decide_eq_true he,cond_true]
   refine⟨l,rfl,hs,fun x=>⟨.inl,?_⟩,by omega⟩
   rintro (h | h)
   ·exact h
   ·rw[h,←he];exact List.getElem_mem hb
  ·rw[decide_eq_false he,cond_false]
   simp only[s1,p1,a1,a2,s2,p2,a3,Option.bind_some]
   refine⟨_,rfl,hins ?_⟩
   intro x hx
   rw[List.drop_eq_getElem_cons hb] at hx
   rcases List.mem_cons.1 hx with rfl | hx
   ·exact (tri n l[m]).resolve_right fun h=>h.elim (fun e=>he e.symm) hge
   ·have h1:Lt n l[m]:=(tri n l[m]).resolve_right fun h=>h.elim (fun e=>he e.symm) hge
    exact h1.trans (hrest x hx)
 ·rw[decide_eq_false hb,cond_false,dt,cond_false]
  simp only[s1,p1,a1,a2,s2,p2,a3,Option.bind_some]
  refine⟨_,rfl,hins ?_⟩
  intro x hx
  rw[List.drop_of_length_le (by omega)] at hx
  cases hx
end StrL
theorem vP {x y:ah}:decide (x≤y)=true↔StrL.Le x y:=by
 unfold StrL.Le StrL.Lt
 rw[Go.Proofs.bytesLess_eq,decide_eq_true_iff,decide_eq_true_iff]
 exact Iff.rfl
theorem SA (l:List ah):(l.mergeSort fun x y=>decide (x≤y)).Pairwise StrL.Le:=by
 have h:=List.pairwise_mergeSort (le:=fun x y:ah=>decide (x≤y)) (fun x y z h1 h2=>by
  rw[vP] at *;exact h1.trans h2) (fun x y=>by
  rw[Bool.or_eq_true,vP,vP]
  rcases StrL.tri x y with h | h | h
  ·exact .inl h.le
  ·subst h;exact .inl fun h=>h.irrefl
  ·exact .inr h.le) l
 exact h.imp fun {x y} h=>vP.1 h
theorem Rj (l r:List ah)(hl:l.length≤1048576)(hr:r.Pairwise StrL.Lt)(hm:∀x,x∈r↔x∈l):zT l=some r:=by
 unfold zT qM
 have hl2:(l.mergeSort fun (x y:ah)=>decide (x≤y)).length=l.length:=List.length_mergeSort _
 rw[Nat.ble_eq_true_of_le hl,cond_true,Option.bind_some,hl2,Nat.beq_refl,cond_true,StrL.compact_val _ (by rw[hl2];exact hl),Option.bind_some]
 obtain⟨h1,h2⟩:=StrL.dd_ok (SA l)
 congr 1
 refine StrL.asc_uniq h1 hr fun x=>?_
 rw[h2,hm]
 exact (List.mergeSort_perm l _).mem_iff
theorem yg (b x:Bool):(bif b then x else false)=(b&&x):=by cases b<;>rfl
def dJ (x a b:Int):Bool:=decide (x≥a)&&decide (x≤b)
theorem kb (x a b:Int):cW x a b=some (dJ x a b):=by simp only[cW,ft,yg,dJ]
theorem iX (x a b:Int):gq x a b=some (dJ x a b):=by simp only[gq,ft,yg,dJ]
def jh (c:UInt8):Bool:=(decide (97≤c.toNat)&&decide (c.toNat≤122))||(decide (48≤c.toNat)&&decide (c.toNat≤57))
theorem Nn (c:UInt8):tM (c.toNat:Int)=some (jh c):=by
 simp only[tM,jh,ft]
 by_cases h1:97≤c.toNat<;>by_cases h2:c.toNat≤122<;>by_cases h3:48≤c.toNat<;>by_cases h4:c.toNat≤57<;>simp[h1,h2,h3,h4,show ((97:Int)≤c.toNat)↔97≤c.toNat by omega,show ((c.toNat:Int)≤122)↔c.toNat≤122 by omega,show ((48:Int)≤c.toNat)↔48≤c.toNat by omega,show ((c.toNat:Int)≤57)↔c.toNat≤57 by omega]
def ki:List ah:=[[116,114,117,101],[102,114,111,109],[110,111,116],[97,110,100],[111,114],[98,111,116,104],[101,105,116,104,101,114],[105,116],[105,110]]
def eX (s:ah):Bool:=match s with
 | []=>false
 | c::r=>decide (r.length<8)&&decide (97≤c.toNat)&&decide (c.toNat≤122)&&s.all jh && !ki.contains s
theorem VW (b x:Bool):(bif b then b else x)=(b||x):=by cases b<;>rfl
theorem JX:za [116,114,117,101,32,102,114,111,109,32,110,111,116,32,97,110,100,32,111,114,32,98,111,116,104,32,101,105,116,104,101,114,32,105,116,32,105,110] [32]=some ki:=by
 have h:vy [116,114,117,101,32,102,114,111,109,32,110,111,116,32,97,110,100,32,111,114,32,98,111,116,104,32,101,105,116,104,101,114,32,105,116,32,105,110] [32] 0 (-1) 9 ([116,114,117,101,32,102,114,111,109,32,110,111,116,32,97,110,100,32,111,114,32,98,111,116,104,32,101,105,116,104,101,114,32,105,116,32,105,110],0,List.replicate 9 [])=some (.inr ([105,110],8,[[116,114,117,101],[102,114,111,109],[110,111,116],[97,110,100],[111,114],[98,111,116,104],[101,105,116,104,101,114],[105,116],[]])):=
  (gR (fun a=>(xc _ _ _ _ _ a).1)).2 ⟨20,by decide +kernel⟩
 have e:za [116,114,117,101,32,102,114,111,109,32,110,111,116,32,97,110,100,32,111,114,32,98,111,116,104,32,101,105,116,104,101,114,32,105,116,32,105,110] [32]=(aW (vy [116,114,117,101,32,102,114,111,109,32,110,111,116,32,97,110,100,32,111,114,32,98,111,116,104,32,101,105,116,104,101,114,32,105,116,32,105,110] [32] 0 (-1) 9 ([116,114,117,101,32,102,114,111,109,32,110,111,116,32,97,110,100,32,111,114,32,98,111,116,104,32,101,105,116,104,101,114,32,105,116,32,105,110],0,List.replicate 9 [])) fun u12:ah×Int×(List ah)=>(aF u12.2.2 u12.2.1).bind fun e13=>(gJ (eM u12.2.2 u12.2.1 u12.1).length 0 (ar (u12.2.1+1))).bind fun s14=>(gW (eM u12.2.2 u12.2.1 u12.1) (0+Int.toNat (0)) (Int.toNat ((ar (u12.2.1+1))) - Int.toNat (0))).bind fun p15=>some p15).bind fun r=>some r:=by rfl
 rw[e,h]
 rfl
theorem Fg (s:ah):l6 ki s=some (ki.contains s):=by
 unfold l6 vr
 rw[km (L:=mM ki s) (a:=ki) (p:=fun e=>some (s==e)) (q:=fun e=>s==e) (fun _ _=>rfl) (fun x=>by rw[ss,il]<;>rfl) (by decide)]
 cases h:ki.findIdx? (fun e=>s==e) with
 | none=>
  have:ki.contains s=false:=by
   rw[List.findIdx?_eq_none_iff] at h
   rw[Bool.eq_false_iff]
   intro hc
   rw[List.contains_iff_exists_mem_beq] at hc
   obtain⟨w,hw,he⟩:=hc
   rw[h w hw] at he
   cases he
  rw[this]
  rfl
 | some i=>
  have:ki.contains s=true:=by
   rw[List.findIdx?_eq_some_iff_getElem] at h
   obtain⟨hi,he,_⟩:=h
   rw[List.contains_iff_exists_mem_beq]
   exact⟨_,List.getElem_mem hi,he⟩
  rw[this]
  simp
theorem MR (s:ah):(bif s==[116,114,117,101] then s==[116,114,117,101] else bif s==[102,114,111,109] then s==[102,114,111,109] else bif s==[110,111,116] then s==[110,111,116] else bif s==[97,110,100] then s==[97,110,100] else bif s==[111,114] then s==[111,114] else bif s==[98,111,116,104] then s==[98,111,116,104] else bif s==[101,105,116,104,101,114] then s==[101,105,116,104,101,114] else bif s==[105,116] then s==[105,116] else s==[105,110])=ki.contains s:=by
 simp only[VW,ki,List.contains_cons,List.contains_nil,Bool.or_false]
theorem nJ (s:ah)(hs:s.length≤1048576):pb s=some (eX s):=by
 unfold pb cW eX
 simp only[ft,Option.bind_some,MR]
 cases s with
 | nil=>rfl
 | cons c r=>
  have e1:decide (len (c::r)≥1)=true:=decide_eq_true (by simp[len];omega)
  have e2:decide (len (c::r)≤8)=decide (r.length<8):=by simp only[len,List.length_cons];congr 1;apply propext;omega
  have e3:aF (c::r) (0:Int)=some c:=rfl
  have e4:decide ((c.toNat:Int)<97)=!decide (97≤c.toNat):=by rw[←decide_not];congr 1;apply propext;omega
  have e5:decide ((c.toNat:Int)>122)=!decide (c.toNat≤122):=by rw[←decide_not];congr 1;apply propext;omega
  rw[e1,e2,e3,rC (r:=false) (L:=ru (c::r)) (a:=c::r) (p:=fun c=>(tM (c.toNat:Int)).bind fun r=>some (!r)) (q:=fun c=>!jh c) (fun x _=>by rw[Nn];rfl) (fun x=>by rw[MS,la];simp only[Option.bind_assoc,Option.bind_some]) (by omega)]
  simp only[cond_true,Option.bind_some,e4,e5]
  have e6:((c::r).any fun c=>!jh c)=!((c::r).all jh):=by rw[List.not_all_eq_any_not]
  rw[e6]
  cases decide (r.length<8)<;>cases decide (97≤c.toNat)<;>cases decide (c.toNat≤122)<;>cases (c::r).all jh<;>cases ki.contains (c::r)<;>rfl
theorem ny (s:ah)(hs:s.length≤1048576):tj s=some (eX s):=by
 unfold tj gq eX
 simp only[ft,Option.bind_some,JX,Fg]
 cases s with
 | nil=>rfl
 | cons c r=>
  have e1:decide (len (c::r)≥1)=true:=decide_eq_true (by simp[len];omega)
  have e2:decide (len (c::r)≤8)=decide (r.length<8):=by simp only[len,List.length_cons];congr 1;apply propext;omega
  have e3:aF (c::r) (0:Int)=some c:=rfl
  have e4:decide ((c.toNat:Int)<97)=!decide (97≤c.toNat):=by rw[←decide_not];congr 1;apply propext;omega
  have e5:decide ((c.toNat:Int)>122)=!decide (c.toNat≤122):=by rw[←decide_not];congr 1;apply propext;omega
  have hp:∀c:UInt8,(bif decide ((c.toNat:Int)<97) then (bif decide ((c.toNat:Int)<48) then true else decide ((c.toNat:Int)>57)) else (bif decide ((c.toNat:Int)>122) then (bif decide ((c.toNat:Int)<48) then true else decide ((c.toNat:Int)>57)) else false))=!jh c:=by
   intro c
   have f1:decide ((c.toNat:Int)<97)=!decide (97≤c.toNat):=by rw[←decide_not];congr 1;apply propext;omega
   have f2:decide ((c.toNat:Int)>122)=!decide (c.toNat≤122):=by rw[←decide_not];congr 1;apply propext;omega
   have f3:decide ((c.toNat:Int)<48)=!decide (48≤c.toNat):=by rw[←decide_not];congr 1;apply propext;omega
   have f4:decide ((c.toNat:Int)>57)=!decide (c.toNat≤57):=by rw[←decide_not];congr 1;apply propext;omega
   rw[f1,f2,f3,f4]
   unfold jh
   by_cases g1:97≤c.toNat
   ·have g3:48≤c.toNat:=by omega
    have g4:¬c.toNat≤57:=by omega
    simp only[g1,g3,g4,decide_true,decide_false]
    cases decide (c.toNat≤122)<;>rfl
   ·simp only[g1,decide_false]
    cases decide (48≤c.toNat)<;>cases decide (c.toNat≤57)<;>rfl
  rw[e1,e2,e3,rC (r:=false) (L:=ug (c::r)) (a:=c::r) (p:=fun c=>some (!jh c)) (q:=fun c=>!jh c) (fun x _=>rfl) (fun x=>by rw[Pj,mP];simp only[ft,hp,Option.bind_some]) (by omega)]
  simp only[cond_true,Option.bind_some,e4,e5]
  have e6:((c::r).any fun c=>!jh c)=!((c::r).all jh):=by rw[List.not_all_eq_any_not]
  rw[e6]
  cases decide (r.length<8)<;>cases decide (97≤c.toNat)<;>cases decide (c.toNat≤122)<;>cases (c::r).all jh<;>cases ki.contains (c::r)<;>rfl
theorem ma {ρ υ σ : Type}{L : Nat → σ → Option (ρ ⊕ υ)}(N : Nat)(J : Nat → σ → Prop)(T : ρ ⊕ υ → Prop)(hs : ∀ i s, i < N → J i s → (∃ s', J (i + 1) s' ∧ L i s = L (i + 1) s') ∨ ∃ y, T y ∧ L i s = some y)(he : ∀ s, J N s → ∃ y, T y ∧ L N s = some y){s : σ}(h0 : J 0 s) : ∃ y, T y ∧ L 0 s = some y := by
  have key : ∀ k i s, i + k = N → J i s → ∃ y, T y ∧ L i s = some y := by
    intro k
    induction k with
    | zero => intro i s hi hj; obtain rfl : i = N := by omega
              exact he s hj
    | succ k ih =>
      intro i s hi hj
      rcases hs i s (by omega) hj with ⟨s', h1, h2⟩ | h
      · rw [h2]; exact ih (i + 1) s' (by omega) h1
      · exact h
  exact key N 0 s (by omega) h0
theorem Ep {α:Type}{L:Int→Option (Bool⊕Unit)}{a:List α}{f:α→Option Bool}{p:α→Bool}(hf:∀x∈a,f x=some (p x))(hL:∀x,L x=bif decide (x<len a) then (aF a x).bind fun e=>(f e).bind fun r=>bif !r then some (.inl false) else L (ar (x+1)) else some (.inr ()))(hb:a.length<9223372036854775807):L 0=some (if a.all p then .inr () else .inl false):=by
 obtain⟨y,h1,h2⟩:=ma (L:=fun i (_:Unit)=>L (i:Int)) a.length (fun i _=>(a.take i).all p=true) (fun y=>y=if a.all p then .inr () else .inl false) (s:=())
  (by
   intro i _ hi hj
   have hx:=List.getElem?_eq_getElem hi
   rw[show L (i:Int)=_ from hL _,bK,decide_eq_true hi,cond_true,bX,hx,Option.bind_some,hf _ (List.getElem_mem hi),Option.bind_some,cC (by omega)]
   cases hp:p a[i] with
   | true=>
    refine .inl ⟨(),?_,rfl⟩
    rw[List.take_add_one,hx,List.all_append,hj]
    simp[hp]
   | false=>
    refine .inr ⟨_,?_,rfl⟩
    rw[if_neg]
    intro h
    rw[List.all_eq_true] at h
    rw[h _ (List.getElem_mem hi)] at hp
    cases hp)
  (by
   intro _ hj
   refine⟨_,rfl,?_⟩
   rw[List.take_length] at hj
   rw[show L (a.length:Int)=_ from hL _,bK,decide_eq_false (by omega),cond_false,if_pos hj]) (by simp)
 rw[show L 0=some y from h2,h1]
theorem sv {ρ υ α:Type}{q:α→Bool}{y0 y1:ρ⊕υ}:∀{a:List α} {L:Nat→Option (ρ⊕υ)},(∀(i:Nat) x,a[i]?=some x→L i=bif q x then some y0 else L (i+1))→L a.length=some y1→L 0=some (if a.any q then y0 else y1)
 | [],L,_,he=>by simpa using he
 | x::a,L,hL,he=>by
  rw[hL 0 x rfl,sv (a:=a) (L:=fun i=>L (i+1)) (y0:=y0) (y1:=y1) (fun i z hz=>hL (i+1) z (by simpa using hz)) (by simpa using he),List.any_cons]
  cases q x<;>rfl
def nY (c:Condition):Bool:=
 if c.Op=1 then decide (c.Parts.length=0)&&(decide (c.Name=[])&&decide (c.Day=0))
 else if c.Op=2 then decide (c.Parts.length=0)&&(eX c.Name&&decide (c.Day=0))
 else if c.Op=3 then decide (c.Parts.length=0)&&(decide (c.Name=[])&&dJ c.Day 0 36524)
 else if c.Op=4 then decide (c.Parts.length=1)&&(decide (c.Name=[])&&decide (c.Day=0))
 else if c.Op=5∨c.Op=6 then decide (c.Parts.length=2)&&(decide (c.Name=[])&&decide (c.Day=0))
 else false
mutual
def dQ:Condition→Bool
 | ⟨a0,a1,a2,a3⟩=>nY ⟨a0,a1,a2,a3⟩&&vI a3
def vI:List Condition→Bool
 | []=>true
 | x::xs=>dQ x&&vI xs
end
theorem wz:∀a,vI a=a.all dQ
 | []=>rfl
 | x::xs=>by simp[vI,wz xs]
theorem pF (c:Condition):dQ c=(nY c&&c.Parts.all dQ):=by cases c;simp only[dQ,wz]
theorem vG {α:Type}{a:List α}{n:Nat}:(len a==(n:Int))=decide (a.length=n):=by
 rw[qJ]
 by_cases h:a.length=n
 ·rw[decide_eq_true h,decide_eq_true];simp only[len];omega
 ·rw[decide_eq_false h,decide_eq_false];simp only[len];omega
theorem PG (c:Condition)(hn:c.Name.length≤1048576):xR c=some (nY c):=by
 have l0:(len c.Parts==0)=decide (c.Parts.length=0):=vG (n:=0)
 have l1:(len c.Parts==1)=decide (c.Parts.length=1):=vG (n:=1)
 have l2:(len c.Parts==2)=decide (c.Parts.length=2):=vG (n:=2)
 unfold xR nY
 simp only[ft,nJ _ hn,Option.bind_some,pc,kb,l0,l1,l2,vC,qJ,yg]
 by_cases o1:c.Op=1
 ·simp only[o1,decide_true,cond_true,if_true]
 by_cases o2:c.Op=2
 ·rw[decide_eq_false o1,decide_eq_true o2,cond_false,cond_true,if_neg o1,if_pos o2]
  cases decide (c.Parts.length=0)<;>rfl
 by_cases o3:c.Op=3
 ·rw[decide_eq_false o1,decide_eq_false o2,decide_eq_true o3,cond_false,cond_false,cond_true,if_neg o1,if_neg o2,if_pos o3]
  cases decide (c.Parts.length=0)<;>cases decide (c.Name=[])<;>rfl
 by_cases o4:c.Op=4
 ·rw[decide_eq_false o1,decide_eq_false o2,decide_eq_false o3,decide_eq_true o4,if_neg o1,if_neg o2,if_neg o3,if_pos o4]
  rfl
 rw[decide_eq_false o1,decide_eq_false o2,decide_eq_false o3,decide_eq_false o4,if_neg o1,if_neg o2,if_neg o3,if_neg o4]
 by_cases o5:c.Op=5
 ·simp only[o5,decide_true,cond_true,cond_false,true_or,if_true]
 ·by_cases o6:c.Op=6
  ·rw[if_pos (.inr o6),decide_eq_false o5,decide_eq_true o6];rfl
  ·rw[if_neg (by omega),decide_eq_false o5,decide_eq_false o6];rfl
theorem LF (c:Condition):bF c→EF c=some (dQ c):=by
 refine eE (P:=fun c=>bF c→EF c=some (dQ c)) ?_ c
 intro c ih hc
 rw[fq] at hc
 rw[VC]
 unfold rA
 rw[PG c hc.2.1,Option.bind_some,pF]
 cases nY c with
 | false=>rfl
 | true=>
  have hl:c.Parts.length≤1048576:=hc.2.2.2.1.1
  simp only[Bool.not_true,cond_false,Bool.true_and]
  rw[Ep (L:=oE (aE oS) c) (a:=c.Parts) (f:=fun e=>EF e) (p:=dQ) (fun x hx=>ih x hx (hc.2.2.2.1.2 x hx)) (fun x=>by rw[MG,jy]<;>rfl) (by omega)]
  cases c.Parts.all dQ<;>rfl
theorem vX (a:List Condition)(i:Nat)(h:i<a.length):aJ (a.take (i+1))=aJ (a.take i)+bn a[i]:=by
 have app:∀(x y:List Condition),aJ (x++y)=aJ x+aJ y:=by
  intro x y
  induction x with
  | nil=>simp[aJ]
  | cons z x ih=>simp only[List.cons_append,aJ,ih];omega
 rw[List.take_add_one,List.getElem?_eq_getElem h,app]
 simp[aJ]
theorem od (a:List Condition)(i:Nat):aJ (a.take i)≤aJ a:=by
 have app:∀(x y:List Condition),aJ (x++y)=aJ x+aJ y:=by
  intro x y
  induction x with
  | nil=>simp[aJ]
  | cons z x ih=>simp only[List.cons_append,aJ,ih];omega
 have:=app (a.take i) (a.drop i)
 rw[List.take_append_drop] at this
 omega
theorem PB (c:Condition):bn c≤2000000→ID c=some ((bn c:Nat):Int):=by
 refine eE (P:=fun c=>bn c≤2000000→ID c=some ((bn c:Nat):Int)) ?_ c
 intro c ih hc
 have hc':=eR c
 have hcs:=gl c.Parts
 rw[VN]
 unfold rj
 obtain⟨y,h1,h2⟩:=ma (L:=fun i (s:Int)=>kh (aE jE) c (s,(i:Int))) c.Parts.length (fun i s=>s=((1+aJ (c.Parts.take i):Nat):Int)) (fun y=>y=.inr ((bn c:Nat):Int)) (s:=1)
  (by
   intro i s hi hj
   have hx:=List.getElem?_eq_getElem hi
   have h3:=vX c.Parts i hi
   have h4:=od c.Parts (i+1)
   refine .inl ⟨((1+aJ (c.Parts.take (i+1)):Nat):Int),rfl,?_⟩
   show kh (aE jE) c (s,(i:Int))=_
   rw[D3,ir]
   simp only[bK,decide_eq_true hi,cond_true,bX,hx,Option.bind_some]
   rw[show aE jE c.Parts[i]=some ((bn c.Parts[i]:Nat):Int) from ih _ (List.getElem_mem hi) (by omega),Option.bind_some,cC (by omega),hj,iO (by omega) (by omega)]
   congr 2
   omega)
  (by
   intro s hj
   refine⟨_,rfl,?_⟩
   rw[List.take_length] at hj
   show kh (aE jE) c (s,(c.Parts.length:Int))=_
   rw[D3,ir]
   simp only[bK,decide_eq_false (Nat.lt_irrefl _),cond_false]
   rw[hj,hc']) (by simp[aJ])
 rw[show kh (aE jE) c (1,0)=some y from h2,h1]
 rfl
def mZ (c:Condition):Bool:=dQ c&&decide (bn c≤15)
theorem Zn {c:Condition}(h:bF c):bn c≤1048577:=by
 rw[fq] at h
 rw[eR]
 omega
theorem Ps (c:Condition)(h:bF c):xL c=some (mZ c):=by
 unfold xL mZ
 rw[LF c h,Option.bind_some]
 cases dQ c with
 | false=>rfl
 | true=>
  have:=Zn h
  simp only[cond_true,Bool.true_and]
  rw[PB c (by omega),Option.bind_some,dt]
  congr 1
  by_cases h:bn c≤15
  ·rw[decide_eq_true h,decide_eq_true (by omega)]
  ·rw[decide_eq_false h,decide_eq_false (by omega)]
def IX (op:Int):Nat:=if op=4 then 1 else if op=5∨op=6 then 2 else 0
def zg (c:Condition):Bool:=dJ c.Op 1 6&&decide (c.Parts.length=IX c.Op)
def Dy (c:Condition):Bool:=((c.Op==2) == !(c.Name==([]:ah)))&&((if c.Op=2 then eX c.Name else true)&&((if c.Op=3 then true else decide (c.Day=0))&&dJ c.Day 0 36524))
theorem lQ {x a b:Int}:dJ x a b=true↔a≤x∧x≤b:=by simp[dJ]
theorem OY (c:Condition):((gq c.Op 1 6).bind fun r20=>bZ (ρ:=Int) (bif (!r20) then (some (.inr true)) else ((aF [(-1),0,0,0,1,2,2] c.Op).bind fun e22=>some (.inr ((len c.Parts) != e22)))) fun u21:Bool=>(some (.inr u21):Option (Int⊕Bool)))=some (.inr (!zg c)):=by
 rw[iX,Option.bind_some]
 unfold zg
 cases h:dJ c.Op 1 6 with
 | false=>rfl
 | true=>
  rw[lQ] at h
  have ho:c.Op=1∨c.Op=2∨c.Op=3∨c.Op=4∨c.Op=5∨c.Op=6:=by omega
  have key:aF [(-1),0,0,0,1,2,2] c.Op=some ((IX c.Op:Nat):Int):=by rcases ho with h | h | h | h | h | h<;>rw[h]<;>rfl
  simp only[Bool.not_true,cond_false,key,Option.bind_some,fH,Bool.true_and,bne,vG]
theorem Pv (c:Condition)(hn:c.Name.length≤1048576):(bif (!((c.Op==2)==(!(c.Name==([]:ah))))) then (some (.inr true)) else (bZ (ρ:=Int) (bif (c.Op==2) then ((tj c.Name).bind fun r10=>bZ (ρ:=Int) (bif (!r10) then (some (.inr true)) else (bZ (ρ:=Int) (bif (c.Op != 3) then (bZ (ρ:=Int) (bif (c.Day != 0) then (some (.inr true)) else ((mz c.Day).bind fun r14=>some (.inr (!r14)))) fun u13:Bool=>some (.inr u13)) else ((mz c.Day).bind fun r15=>some (.inr (!r15)))) fun u12:Bool=>some (.inr u12))) fun u11:Bool=>some (.inr u11)) else (bZ (ρ:=Int) (bif (c.Op != 3) then (bZ (ρ:=Int) (bif (c.Day != 0) then (some (.inr true)) else ((mz c.Day).bind fun r18=>some (.inr (!r18)))) fun u17:Bool=>some (.inr u17)) else ((mz c.Day).bind fun r19=>some (.inr (!r19)))) fun u16:Bool=>some (.inr u16))) fun u9:Bool=>(some (.inr u9):Option (Int⊕Bool))))=some (.inr (!Dy c)):=by
 unfold Dy
 simp only[ny _ hn,mz,iX,Option.bind_some,UV]
 cases ((c.Op==2) == !(c.Name==([]:ah))) with
 | false=>rfl
 | true=>
  simp only[Bool.not_true,cond_false,Bool.true_and]
  by_cases o2:c.Op=2
  ·simp only[o2,if_true,show ((2:Int)==2)=true from rfl,cond_true,show ¬(2:Int)=3 by omega,if_false,decide_false,Bool.not_false]
   cases eX c.Name<;>by_cases hd:c.Day=0<;>simp[hd]
  ·have:(c.Op==2)=false:=beq_eq_false_iff_ne.2 o2
   rw[this,cond_false,if_neg o2]
   by_cases o3:c.Op=3
   ·simp[o3]
   ·by_cases hd:c.Day=0<;>simp[o3,hd]
theorem sL (c:Condition):nY c=(zg c&&Dy c):=by
 have name0:c.Name=[]→eX c.Name=false:=fun h=>by rw[h];rfl
 have d0:c.Day=0→dJ c.Day 0 36524=true:=fun h=>by rw[h];rfl
 have in1:dJ c.Op 1 6=decide (1≤c.Op∧c.Op≤6):=by rw[Bool.eq_iff_iff,lQ,decide_eq_true_iff]
 unfold nY zg Dy
 rw[in1,show IX c.Op=if c.Op=4 then 1 else if c.Op=5∨c.Op=6 then 2 else 0 from rfl]
 by_cases hn:c.Name=[]
 ·by_cases hd:c.Day=0
  ·by_cases o1:c.Op=1
   ·simp[o1,hn,hd,dJ]
   by_cases o2:c.Op=2
   ·simp[o2,hn,hd,eX]
   by_cases o3:c.Op=3
   ·simp[o3,hn,hd,dJ]
   by_cases o4:c.Op=4
   ·simp[o4,hn,hd,dJ]
   by_cases o5:c.Op=5
   ·simp[o5,hn,hd,dJ]
   by_cases o6:c.Op=6
   ·simp[o6,hn,hd,dJ]
   have:¬(1≤c.Op∧c.Op≤6):=by omega
   simp[o1,o2,o3,o4,o5,o6,decide_eq_false this]
  ·by_cases o3:c.Op=3
   ·simp[o3,hn]
   ·by_cases o2:c.Op=2<;>simp[o2,o3,hd]
 ·have hb:(c.Name==([]:ah))=false:=beq_eq_false_iff_ne.2 hn
  by_cases o2:c.Op=2
  ·by_cases hd:c.Day=0<;>simp[o2,hn,hd,dJ,hb]
  ·simp[o2,hn,hb]
theorem Mg (c:Condition):bF c→∀so:Nat,so≤15→NC c (so:Int)=some (if dQ c=true∧so+bn c≤15 then ((so+bn c:Nat):Int) else -1):=by
 refine eE (P:=fun c=>bF c→∀so:Nat,so≤15→NC c (so:Int)=some (if dQ c=true∧so+bn c≤15 then ((so+bn c:Nat):Int) else -1)) ?_ c
 intro c ih hc so hso
 rw[fq] at hc
 have hnc:=eR c
 rw[Xb]
 unfold vz
 rw[OY,Pv c hc.2.1,cC (by omega),pF,sL]
 by_cases h15:so+1≤15
 ·rw[decide_eq_false (by omega),cond_false]
  cases zg c with
  | false=>rfl
  | true=>
  cases Dy c with
  | false=>rfl
  | true=>
   simp only[Bool.not_true,dt,cond_false,Bool.true_and]
   obtain⟨y,h1,h2⟩:=ma (L:=fun i (s:Int)=>kx (aE kL) c (so:Int) (s,(i:Int))) c.Parts.length
    (fun i s=>s=((so+1+aJ (c.Parts.take i):Nat):Int)∧so+1+aJ (c.Parts.take i)≤15∧(c.Parts.take i).all dQ=true)
    (fun y=>y=if c.Parts.all dQ=true∧so+bn c≤15 then .inr ((so+bn c:Nat):Int) else .inl (-1)) (s:=((so+1:Nat):Int))
    (by
     rintro i s hi ⟨hj,hj2,hj3⟩
     have hx:=List.getElem?_eq_getElem hi
     have h3:=vX c.Parts i hi
     have h4:=od c.Parts (i+1)
     have h5:=ih _ (List.getElem_mem hi) (hc.2.2.2.1.2 _ (List.getElem_mem hi)) (so+1+aJ (c.Parts.take i)) hj2
     show (∃s',_∧kx (aE kL) c (so:Int) (s,(i:Int))=_)∨∃y,_∧kx (aE kL) c (so:Int) (s,(i:Int))=_
     rw[FE,jt]
     simp only[bK,decide_eq_true hi,cond_true,bX,hx,Option.bind_some,hj]
     rw[show aE kL (c.Parts[i],((so+1+aJ (c.Parts.take i):Nat):Int))=_ from h5,Option.bind_some,cC (by have:=hc.2.2.2.1.1;omega)]
     by_cases hq:dQ c.Parts[i]=true∧so+1+aJ (c.Parts.take i)+bn c.Parts[i]≤15
     ·rw[if_pos hq,decide_eq_false (by omega),cond_false]
      refine .inl ⟨_,⟨?_,?_,?_⟩,rfl⟩
      ·congr 1;omega
      ·omega
      ·rw[List.take_add_one,hx,List.all_append,hj3];simp[hq.1]
     ·rw[if_neg hq,decide_eq_true (by omega),cond_true]
      refine .inr ⟨_,?_,rfl⟩
      rw[if_neg]
      rintro⟨h6,h7⟩
      rw[List.all_eq_true] at h6
      exact hq ⟨h6 _ (List.getElem_mem hi),by omega⟩)
    (by
     rintro s ⟨hj,hj2,hj3⟩
     rw[List.take_length] at *
     show ∃y,_∧kx (aE kL) c (so:Int) (s,(c.Parts.length:Int))=_
     rw[FE,jt]
     simp only[bK,decide_eq_false (Nat.lt_irrefl _),cond_false]
     refine⟨_,?_,rfl⟩
     rw[if_pos ⟨hj3,by omega⟩,hj]
     congr 2;omega) ⟨by simp[aJ],by simp[aJ];omega,by simp⟩
   rw[show kx (aE kL) c (so:Int) (((so+1:Nat):Int),0)=some y from h2,h1]
   by_cases hq:c.Parts.all dQ=true∧so+bn c≤15
   ·rw[if_pos hq,if_pos hq];rfl
   ·rw[if_neg hq,if_neg hq];rfl
 ·rw[decide_eq_true (by omega),cond_true,dt,cond_true,if_neg (by omega)]
theorem Ou (c:Condition)(h:bF c):Hz c=some (mZ c):=by
 unfold Hz mZ
 rw[show (0:Int)=((0:Nat):Int) from rfl,Mg c h 0 (by omega),Option.bind_some]
 have:=eR c
 congr 1
 cases dQ c with
 | false=>rfl
 | true=>
  by_cases h:bn c≤15
  ·rw[if_pos ⟨rfl,by omega⟩,decide_eq_true (by omega),decide_eq_true h];rfl
  ·rw[if_neg (by omega),decide_eq_false h];rfl
mutual
def iQ:Condition→List ah
 | ⟨op,name,_,parts⟩=>(if op=2 then [name] else [])++d3 parts
def d3:List Condition→List ah
 | []=>[]
 | x::xs=>iQ x++d3 xs
end
theorem FG (c:Condition):iQ c=(if c.Op=2 then [c.Name] else [])++d3 c.Parts:=by cases c;simp only[iQ]
theorem wO:∀(a b:List Condition),d3 (a++b)=d3 a++d3 b
 | [],b=>rfl
 | x::a,b=>by simp only[List.cons_append,d3,wO a b,List.append_assoc]
theorem tW (a:List Condition)(i:Nat)(h:i<a.length):d3 (a.take (i+1))=d3 (a.take i)++iQ a[i]:=by
 rw[List.take_add_one,List.getElem?_eq_getElem h,wO]
 simp[d3]
mutual
theorem CQ:∀c,(iQ c).length≤bn c
 | ⟨op,name,day,parts⟩=>by
  have:=qk parts
  simp only[iQ,bn,List.length_append]
  split<;>simp<;>omega
theorem qk:∀a,(d3 a).length≤aJ a
 | []=>by simp[d3]
 | x::a=>by
  have h1:=CQ x
  have h2:=qk a
  simp only[d3,aJ,List.length_append]
  omega
end
theorem L0 (c:Condition):∀l:List ah,l.length+bn c≤1000000→O0 c l=some (l++iQ c):=by
 refine eE (P:=fun c=>∀l:List ah,l.length+bn c≤1000000→O0 c l=some (l++iQ c)) ?_ c
 intro c ih l hl
 have hnc:=eR c
 have hpl:=gl c.Parts
 rw[WM]
 unfold vD
 have h0:(bif (c.Op==2) then ((gO 16 l [c.Name]).bind fun a8=>some (.inr a8)) else (some (.inr l)):Option (List ah⊕List ah))=some (.inr (l++if c.Op=2 then [c.Name] else [])):=by
  rw[qJ]
  by_cases h:c.Op=2
  ·rw[decide_eq_true h,cond_true,xr (by omega) (by omega),if_pos h];rfl
  ·rw[decide_eq_false h,cond_false,if_neg h,List.append_nil]
 rw[h0,dt]
 have hlen:(l++if c.Op=2 then [c.Name] else []).length≤l.length+1:=by
  rw[List.length_append];split<;>simp
 rw[FG,←List.append_assoc]
 generalize (l++if c.Op=2 then [c.Name] else [])=l1 at hlen ⊢
 obtain⟨y,h1,h2⟩:=ma (L:=fun i (s:List ah)=>lU (aE md) c l ((i:Int),s)) c.Parts.length (fun i s=>s=l1++d3 (c.Parts.take i)) (fun y=>y=.inr (l1++d3 c.Parts)) (s:=l1)
  (by
   intro i s hi hj
   have hx:=List.getElem?_eq_getElem hi
   have h3:=vX c.Parts i hi
   have h4:=od c.Parts (i+1)
   have h5:=qk (c.Parts.take i)
   refine .inl ⟨l1++d3 (c.Parts.take (i+1)),rfl,?_⟩
   show lU (aE md) c l ((i:Int),s)=_
   rw[Fr,jT]
   simp only[bK,decide_eq_true hi,cond_true,bX,hx,Option.bind_some]
   rw[show aE md (c.Parts[i],s)=_ from ih _ (List.getElem_mem hi) s (by rw[hj,List.length_append];omega),Option.bind_some,cC (by omega),hj,tW _ _ hi,List.append_assoc])
  (by
   intro s hj
   refine⟨_,rfl,?_⟩
   rw[List.take_length] at hj
   show lU (aE md) c l ((c.Parts.length:Int),s)=_
   rw[Fr,jT]
   simp only[bK,decide_eq_false (Nat.lt_irrefl _),cond_false]
   rw[hj]) (by simp[d3])
 rw[show lU (aE md) c l (0,l1)=some y from h2,h1]
 rfl
theorem Lz {c:Condition}(h:nY c=true)(ho:c.Op=2∨c.Op=3):c.Parts=[]:=by
 rw[sL,zg,IX] at h
 rw[Bool.and_eq_true,Bool.and_eq_true,decide_eq_true_iff] at h
 have:=h.1.2
 rw[if_neg (by omega),if_neg (by omega)] at this
 exact List.length_eq_zero_iff.1 this
theorem ML (c:Condition):dQ c=true→∀l:List ah,l.length+bn c≤1000000→l.Pairwise StrL.Lt→∃r,H7 l c=some r∧r.Pairwise StrL.Lt∧(∀x,x∈r↔x∈l∨x∈iQ c)∧r.length≤l.length+bn c:=by
 refine eE (P:=fun c=>dQ c=true→∀l:List ah,l.length+bn c≤1000000→l.Pairwise StrL.Lt→∃r,H7 l c=some r∧r.Pairwise StrL.Lt∧(∀x,x∈r↔x∈l∨x∈iQ c)∧r.length≤l.length+bn c) ?_ c
 intro c ih hf l hl hs
 have hnc:=eR c
 have hpl:=gl c.Parts
 rw[pF,Bool.and_eq_true,List.all_eq_true] at hf
 rw[VO]
 unfold rc
 rw[qJ,FG]
 by_cases ho:c.Op=2
 ·obtain⟨r,e,r1,r2,r3⟩:=StrL.put_val l c.Name (by omega) hs
  rw[decide_eq_true ho,cond_true,e,if_pos ho,Lz hf.1 (.inl ho)]
  exact⟨r,rfl,r1,fun x=>by rw[r2];simp[d3],by omega⟩
 rw[decide_eq_false ho,cond_false,if_neg ho,List.nil_append]
 obtain⟨y,h1,h2⟩:=ma (L:=fun i (s:List ah)=>kj (aE jG) l c ((i:Int),s)) c.Parts.length
  (fun i s=>s.Pairwise StrL.Lt∧(∀x,x∈s↔x∈l∨x∈d3 (c.Parts.take i))∧s.length≤l.length+aJ (c.Parts.take i))
  (fun y=>∃r,y=.inr r∧r.Pairwise StrL.Lt∧(∀x,x∈r↔x∈l∨x∈d3 c.Parts)∧r.length≤l.length+bn c) (s:=l)
  (by
   rintro i s hi ⟨j1,j2,j3⟩
   have hx:=List.getElem?_eq_getElem hi
   have h3:=vX c.Parts i hi
   have h4:=od c.Parts (i+1)
   obtain⟨r,e,r1,r2,r3⟩:=ih _ (List.getElem_mem hi) (hf.2 _ (List.getElem_mem hi)) s (by omega) j1
   refine .inl ⟨r,⟨r1,fun x=>?_,by omega⟩,?_⟩
   ·rw[r2,j2,tW _ _ hi,List.mem_append,or_assoc]
   show kj (aE jG) l c ((i:Int),s)=_
   rw[De,ip]
   simp only[bK,decide_eq_true hi,cond_true,bX,hx,Option.bind_some]
   rw[show aE jG (s,c.Parts[i])=_ from e,Option.bind_some,cC (by omega)])
  (by
   rintro s ⟨j1,j2,j3⟩
   rw[List.take_length] at *
   refine⟨.inr s,⟨s,rfl,j1,j2,by omega⟩,?_⟩
   show kj (aE jG) l c ((c.Parts.length:Int),s)=_
   rw[De,ip]
   simp only[bK,decide_eq_false (Nat.lt_irrefl _),cond_false]) ⟨hs,fun x=>by simp[d3],by simp[aJ]⟩
 obtain⟨r,rfl,hr⟩:=h1
 rw[show kj (aE jG) l c (0,l)=some (.inr r) from h2]
 exact⟨r,rfl,hr⟩
theorem um (l:List ah)(s:ah)(hl:l.length≤1048576):l6 l s=some (l.contains s):=by
 unfold l6 vr
 rw[km (L:=mM l s) (a:=l) (p:=fun e=>some (s==e)) (q:=fun e=>s==e) (fun _ _=>rfl) (fun x=>by rw[ss,il]<;>rfl) (by omega)]
 cases h:l.findIdx? (fun e=>s==e) with
 | none=>
  have:l.contains s=false:=by
   rw[List.findIdx?_eq_none_iff] at h
   rw[Bool.eq_false_iff]
   intro hc
   rw[List.contains_iff_exists_mem_beq] at hc
   obtain⟨w,hw,he⟩:=hc
   rw[h w hw] at he
   cases he
  rw[this]
  rfl
 | some i=>
  have:l.contains s=true:=by
   rw[List.findIdx?_eq_some_iff_getElem] at h
   obtain⟨hi,he,_⟩:=h
   rw[List.contains_iff_exists_mem_beq]
   exact⟨_,List.getElem_mem hi,he⟩
  rw[this]
  simp
theorem Sw (a b:ah):(a==b)=(b==a):=by
 rw[vC,vC]
 by_cases h:a=b
 ·simp[h]
 ·simp[h,Ne.symm h]
theorem K1 (l:List ah)(s:ah)(hl:l.length≤1048576):nR l s=some (l.contains s):=by
 unfold nR
 rw[rC (L:=oH l s) (a:=l) (p:=fun e=>some (e==s)) (q:=fun e=>e==s) (r:=true) (fun _ _=>rfl) (fun x=>by rw[Bd,jW]<;>rfl) (by omega)]
 have:(l.any fun e=>e==s)=l.contains s:=by
  rw[List.contains_eq_any_beq]
  congr 1
  funext e
  exact Sw e s
 rw[this]
 cases l.contains s<;>rfl
def SH (l:List ah)(k:Nat):Bool:=match l[k]? with
 | some e=>!eX e||(l.take k).contains e
 | none=>false
def tU (l:List ah):Nat→Nat→Bool
 | 0,_=>true
 | n+1,k=>!SH l k&&tU l n (k+1)
theorem xy {α:Type}{l:List α}{k:Nat}(h:k≤l.length):nM l 0 (k:Int)=some (l.take k):=by
 unfold nM
 rw[if_pos (by omega)]
 simp
theorem wW (l:List ah)(cs:List Clause)(hl:gp lz l):∀(n k:Nat),k+n=l.length→rD ⟨l,cs⟩ (k:Int)=some (bif tU l n k then .inr () else .inl false)
 | 0,k,hk=>by
  have h1:=hl.1
  rw[C6,jw]
  simp only[bK]
  rw[decide_eq_false (by omega)]
  rfl
 | n+1,k,hk=>by
  have h1:=hl.1
  obtain⟨e,he⟩:∃e,l[k]?=some e:=⟨_,List.getElem?_eq_getElem (by omega)⟩
  rw[C6,jw]
  simp only[bK]
  rw[decide_eq_true (by omega)]
  simp only[cond_true,bX,he,Option.bind_some,nJ e (hl.2 e (List.mem_of_getElem? he)),xy (show k≤l.length by omega),K1 _ e (show (l.take k).length≤1048576 by rw[List.length_take];omega)]
  rw[cC (by omega),wW l cs hl n (k+1) (by omega)]
  simp only[tU,SH,he]
  cases eX e<;>cases (l.take k).contains e<;>rfl
theorem xg (l:List ah)(hl:gp lz l):∀(n k:Nat),k+n=l.length→uG l (k:Int)=some (bif tU l n k then .inr () else .inl false)
 | 0,k,hk=>by
  have h1:=hl.1
  rw[FL,kS]
  simp only[bK]
  rw[decide_eq_false (by omega)]
  rfl
 | n+1,k,hk=>by
  have h1:=hl.1
  obtain⟨e,he⟩:∃e,l[k]?=some e:=⟨_,List.getElem?_eq_getElem (by omega)⟩
  rw[FL,kS]
  simp only[bK]
  rw[decide_eq_true (by omega)]
  simp only[cond_true,bX,he,Option.bind_some,ny e (hl.2 e (List.mem_of_getElem? he)),xy (show k≤l.length by omega),um _ e (show (l.take k).length≤1048576 by rw[List.length_take];omega)]
  rw[cC (by omega),xg l hl n (k+1) (by omega)]
  simp only[tU,SH,he]
  cases eX e<;>cases (l.take k).contains e<;>rfl
def ot (l:List ah):Bool:=tU l l.length 0&&dJ (len l) 2 4
theorem Sk (l:List ah)(cs:List Clause)(hl:gp lz l):uQ ⟨l,cs⟩=some (ot l):=by
 unfold uQ ot
 have:=wW l cs hl l.length 0 (by omega)
 rw[show (0:Int)=((0:Nat):Int) by rfl,this]
 simp only[kb]
 cases tU l l.length 0<;>rfl
theorem Sh (l:List ah)(hl:gp lz l):Hu l=some (ot l):=by
 unfold Hu ot
 have:=xg l hl l.length 0 (by omega)
 rw[show (0:Int)=((0:Nat):Int) by rfl,this]
 simp only[iX]
 cases tU l l.length 0<;>rfl
def iG (cs:List Clause)(id:ah):Int:=match cs.findIdx? (fun e=>e.Id==id) with
 | some i=>(i:Int)
 | none=>-1
theorem F4 (c:Contract)(id:ah)(hl:c.Clauses.length≤1048576):rX c id=some (iG c.Clauses id):=by
 unfold rX iG
 rw[km (L:=rm c id) (a:=c.Clauses) (p:=fun e=>some (e.Id==id)) (q:=fun e=>e.Id==id) (fun _ _=>rfl) (fun x=>by rw[Lx,ln]<;>rfl) (by omega)]
 cases c.Clauses.findIdx? (fun e=>e.Id==id)<;>rfl
theorem FA (c:Contract)(id:ah)(hl:c.Clauses.length≤1048576):BB c id=some (iG c.Clauses id):=by
 unfold BB EQ iG
 rw[km (L:=rp c.Clauses id) (a:=c.Clauses) (p:=fun e=>some (e.Id==id)) (q:=fun e=>e.Id==id) (fun _ _=>rfl) (fun x=>by rw[LV,li]<;>rfl) (by omega)]
 cases c.Clauses.findIdx? (fun e=>e.Id==id)<;>rfl
theorem Lp (cs:List Clause)(id:ah):iG cs id=-1∨∃j:Nat,iG cs id=(j:Int)∧j<cs.length:=by
 unfold iG
 cases h:cs.findIdx? (fun e=>e.Id==id) with
 | none=>exact .inl rfl
 | some j=>
  rw[List.findIdx?_eq_some_iff_getElem] at h
  exact .inr ⟨j,rfl,h.1⟩
def Iw (cs:List Clause)(i:Int)(e:Clause):Bool:=match iG cs e.Repair with
 | .ofNat k=>match cs[k]? with
  | some e'=>((k:Int) != i)&&((e'.Kind==1)&&(e.Kind != 3))
  | none=>false
 | .negSucc _=>false
def iZ (c:Contract)(i:Int)(e:Clause):Bool:=
 eX e.Id&&(eX e.Action&&(dJ e.Kind 1 4&&(dJ e.Party 0 (ar (len c.Parties - 1))&&(dJ e.Other 0 (ar (len c.Parties - 1))&&(!(e.Party==e.Other)&&(mZ e.When&&(dJ e.Amount 0 1000000&&(dJ e.Within 0 400&&(!(bif e.Kind != 1 then (bif e.Amount != 0 then true else e.Within != 0) else false) &&
  (bif e.Repair==[] then true else Iw c.Clauses i e))))))))))
theorem TA (c:Contract)(i:Int)(e:Clause)(hl:c.Clauses.length≤1048576):((rX c e.Repair).bind fun r8=>aW (ρ:=Bool) (bif (decide (r8≥0)) then (bZ (ρ:=Bool) (bif (r8 != i) then ((aF c.Clauses r8).bind fun e11=>ch (bif (e11.Kind==1) then ((e.Kind != 3)) else (false)) fun u12:Bool=>some (.inr u12)) else (some (.inr false))) fun u10:Bool=>some (.inr u10)) else (some (.inr false))) fun u9:Bool=>some u9)=some (Iw c.Clauses i e):=by
 rw[F4 c _ hl,Option.bind_some]
 unfold Iw
 rcases Lp c.Clauses e.Repair with h | ⟨j,h,hj⟩
 ·rw[h];rfl
 ·rw[h,decide_eq_true (by omega),cond_true,bX,List.getElem?_eq_getElem hj,Option.bind_some]
  show _=some (match c.Clauses[j]? with | some e'=>_ | none=>false)
  rw[List.getElem?_eq_getElem hj]
  show _=some (((j:Int) != i)&&((c.Clauses[j].Kind==1)&&(e.Kind != 3)))
  cases ((j:Int) != i)<;>cases (c.Clauses[j].Kind==1)<;>rfl
theorem Sn (c:Contract)(i:Int)(e:Clause)(hl:c.Clauses.length≤1048576):((BB c e.Repair).bind fun r10=>aW (ρ:=Bool) (bif (e.Kind != 3) then (bZ (ρ:=Bool) (bif (decide (r10≥0)) then (bZ (ρ:=Bool) (bif (r10 != i) then ((aF c.Clauses r10).bind fun e14=>some (.inr (e14.Kind==1))) else (some (.inr false))) fun u13:Bool=>some (.inr u13)) else (some (.inr false))) fun u12:Bool=>some (.inr u12)) else (some (.inr false))) fun u11:Bool=>some u11)=some (Iw c.Clauses i e):=by
 rw[FA c _ hl,Option.bind_some]
 unfold Iw
 rcases Lp c.Clauses e.Repair with h | ⟨j,h,hj⟩
 ·rw[h];cases (e.Kind != 3)<;>rfl
 ·rw[h,decide_eq_true (by omega),cond_true,bX,List.getElem?_eq_getElem hj,Option.bind_some]
  show _=some (match c.Clauses[j]? with | some e'=>_ | none=>false)
  rw[List.getElem?_eq_getElem hj]
  show _=some (((j:Int) != i)&&((c.Clauses[j].Kind==1)&&(e.Kind != 3)))
  cases ((j:Int) != i)<;>cases (c.Clauses[j].Kind==1)<;>cases (e.Kind != 3)<;>rfl
theorem KA (c:Contract)(i:Int)(e:Clause)(he:aF c.Clauses i=some e)(hs:fE e)(hl:c.Clauses.length≤1048576):xJ c i=some (iZ c i e):=by
 unfold xJ iZ
 rw[he,Option.bind_some,TA c i e hl]
 simp only[nJ _ hs.1,nJ _ hs.2.2.2.1,kb,Ps _ hs.2.2.2.2.2.2.1,Option.bind_some,ft]
 cases eX e.Id with | false=>rfl | true=>?_
 cases eX e.Action with | false=>rfl | true=>?_
 cases dJ e.Kind 1 4 with | false=>rfl | true=>?_
 cases dJ e.Party 0 (ar (len c.Parties - 1)) with | false=>rfl | true=>?_
 cases dJ e.Other 0 (ar (len c.Parties - 1)) with | false=>rfl | true=>?_
 cases (e.Party==e.Other) with | true=>rfl | false=>?_
 cases mZ e.When with | false=>rfl | true=>?_
 cases dJ e.Amount 0 1000000 with | false=>rfl | true=>?_
 cases dJ e.Within 0 400 with | false=>rfl | true=>?_
 cases (bif e.Kind != 1 then (bif e.Amount != 0 then true else e.Within != 0) else false) with | true=>rfl | false=>?_
 cases (e.Repair==([]:ah))<;>rfl
theorem Ky (c:Contract)(i:Int)(e:Clause)(he:aF c.Clauses i=some e)(hs:fE e)(hl:c.Clauses.length≤1048576):Ii c i=some ((iG c.Clauses e.Id==i)&&iZ c i e):=by
 unfold Ii iZ
 rw[he,Option.bind_some,Sn c i e hl]
 simp only[ny _ hs.1,ny _ hs.2.2.2.1,iX,Ou _ hs.2.2.2.2.2.2.1,Option.bind_some,ft,FA c _ hl,bne]
 cases eX e.Id with | false=>cases (iG c.Clauses e.Id==i)<;>rfl | true=>?_
 cases (iG c.Clauses e.Id==i) with | false=>rfl | true=>?_
 cases eX e.Action with | false=>rfl | true=>?_
 cases dJ e.Kind 1 4 with | false=>rfl | true=>?_
 cases dJ e.Party 0 (ar (len c.Parties - 1)) with | false=>rfl | true=>?_
 cases dJ e.Other 0 (ar (len c.Parties - 1)) with | false=>rfl | true=>?_
 cases (e.Party==e.Other) with | true=>rfl | false=>?_
 cases mZ e.When with | false=>rfl | true=>?_
 cases dJ e.Amount 0 1000000 with | false=>rfl | true=>?_
 cases dJ e.Within 0 400 with | false=>rfl | true=>?_
 cases (bif !(e.Kind==1) then (bif !(e.Amount==0) then true else !(e.Within==0)) else false) with | true=>rfl | false=>?_
 cases (e.Repair==([]:ah))<;>rfl
def qb (c:Contract)(i:Nat):Bool:=match c.Clauses[i]? with
 | some e=>(iG c.Clauses e.Id==(i:Int))&&iZ c (i:Int) e
 | none=>true
def gM (c:Contract):Bool:=!((List.range c.Clauses.length).any fun i=>!qb c i)
theorem oY {c:Contract}:gM c=true↔∀(i:Nat) e,c.Clauses[i]?=some e→iG c.Clauses e.Id=(i:Int)∧iZ c (i:Int) e=true:=by
 unfold gM
 rw[Bool.not_eq_true',←Bool.not_eq_true,List.any_eq_true]
 constructor
 ·intro h i e he
  have hi:=(List.getElem?_eq_some_iff.1 he).1
  cases h1:qb c i with
  | false=>exact absurd ⟨i,List.mem_range.2 hi,by rw[h1];rfl⟩ h
  | true=>
   simp only[qb,he,Bool.and_eq_true,beq_iff_eq] at h1
   exact h1
 ·rintro h ⟨i,hi,h2⟩
  rw[List.mem_range] at hi
  have h1:=h i _ (List.getElem?_eq_getElem hi)
  simp only[qb,List.getElem?_eq_getElem hi,h1.1,h1.2,beq_self_eq_true,Bool.and_self,Bool.not_true] at h2
  cases h2
theorem Jx (c:Contract)(hc:eg c):ke c 0=some (bif gM c then .inr () else .inl false):=by
 have hl:c.Clauses.length≤1048576:=hc.2.1
 have h:=sv (a:=List.range c.Clauses.length) (q:=fun i=>!qb c i) (y0:=(Sum.inl false:Bool⊕Unit)) (y1:=.inr ()) (L:=fun i=>ke c (i:Int))
  (fun i x hx=>by
   obtain⟨hi,hx'⟩:=List.getElem?_eq_some_iff.1 hx
   rw[List.getElem_range] at hx'
   subst hx'
   rw[List.length_range] at hi
   have he:=List.getElem?_eq_getElem hi
   have hg:aF c.Clauses (i:Int)=some c.Clauses[i]:=by rw[bX,he]
   show ke c (i:Int)=_
   rw[Bt,jJ,bK,decide_eq_true hi,cond_true,hg,Option.bind_some,F4 c _ hl,Option.bind_some,KA c _ _ hg (hc.2.2 _ (List.getElem_mem hi)) hl,cC (by omega)]
   simp only[qb,he,bne]
   cases (iG c.Clauses c.Clauses[i].Id==(i:Int))<;>cases iZ c (i:Int) c.Clauses[i]<;>rfl)
  (by
   rw[List.length_range]
   show ke c (c.Clauses.length:Int)=_
   rw[Bt,jJ,bK,decide_eq_false (Nat.lt_irrefl _),cond_false])
 rw[show ke c 0=_ from h]
 unfold gM
 cases (List.range c.Clauses.length).any fun i=>!qb c i<;>rfl
theorem Jy (c:Contract)(hc:eg c):mg c 0=some (bif gM c then .inr () else .inl false):=by
 have hl:c.Clauses.length≤1048576:=hc.2.1
 have h:=sv (a:=List.range c.Clauses.length) (q:=fun i=>!qb c i) (y0:=(Sum.inl false:Bool⊕Unit)) (y1:=.inr ()) (L:=fun i=>mg c (i:Int))
  (fun i x hx=>by
   obtain⟨hi,hx'⟩:=List.getElem?_eq_some_iff.1 hx
   rw[List.getElem_range] at hx'
   subst hx'
   rw[List.length_range] at hi
   have he:=List.getElem?_eq_getElem hi
   have hg:aF c.Clauses (i:Int)=some c.Clauses[i]:=by rw[bX,he]
   show mg c (i:Int)=_
   rw[FX,kX,bK,decide_eq_true hi,cond_true,Ky c _ _ hg (hc.2.2 _ (List.getElem_mem hi)) hl,Option.bind_some,cC (by omega)]
   simp only[qb,he])
  (by
   rw[List.length_range]
   show mg c (c.Clauses.length:Int)=_
   rw[FX,kX,bK,decide_eq_false (Nat.lt_irrefl _),cond_false])
 rw[show mg c 0=_ from h]
 unfold gM
 cases (List.range c.Clauses.length).any fun i=>!qb c i<;>rfl
def ie (cs:List Clause):List ah:=cs.flatMap fun e=>e.Action::iQ e.When
theorem tK {c:Contract}{i:Int}{e:Clause}(h:iZ c i e=true):mZ e.When=true:=by
 simp only[iZ,Bool.and_eq_true] at h
 exact h.2.2.2.2.2.2.1
theorem qc (cs:List Clause)(i:Nat)(h:i<cs.length):ie (cs.take (i+1))=ie (cs.take i)++(cs[i].Action::iQ cs[i].When):=by
 unfold ie
 rw[List.take_add_one,List.getElem?_eq_getElem h,List.flatMap_append]
 simp
theorem zL (c:Contract)(hc:eg c)(h12:c.Clauses.length≤12)(hv:gM c=true):∃r,nL c=some r∧tA c=some r∧r.Pairwise StrL.Lt∧(∀x,x∈r↔x∈ie c.Clauses)∧r.length≤1000:=by
 have hcond:∀i (hi:i<c.Clauses.length),dQ c.Clauses[i].When=true∧bn c.Clauses[i].When≤15:=fun i hi=>by
  have h1:=tK (oY.1 hv i _ (List.getElem?_eq_getElem hi)).2
  unfold mZ at h1
  rw[Bool.and_eq_true,decide_eq_true_iff] at h1
  exact h1
 have hs:∃r,nL c=some r∧r.Pairwise StrL.Lt∧(∀x,x∈r↔x∈ie c.Clauses)∧r.length≤16*c.Clauses.length:=by
  obtain⟨y,⟨r,rfl,hr⟩,h2⟩:=ma (L:=fun i (s:List ah)=>lC c ((i:Int),s)) c.Clauses.length
   (fun i s=>s.Pairwise StrL.Lt∧(∀x,x∈s↔x∈ie (c.Clauses.take i))∧s.length≤16*i)
   (fun y=>∃r,y=.inr r∧r.Pairwise StrL.Lt∧(∀x,x∈r↔x∈ie c.Clauses)∧r.length≤16*c.Clauses.length) (s:=[])
   (by
    rintro i s hi ⟨j1,j2,j3⟩
    have he:=List.getElem?_eq_getElem hi
    obtain⟨f1,f2⟩:=hcond i hi
    obtain⟨r1,e1,p1,m1,l1⟩:=StrL.put_val s c.Clauses[i].Action (by omega) j1
    obtain⟨r2,e2,p2,m2,l2⟩:=ML _ f1 r1 (by omega) p1
    refine .inl ⟨r2,⟨p2,fun x=>?_,by omega⟩,?_⟩
    ·rw[m2,m1,j2,qc _ _ hi,List.mem_append,List.mem_cons,or_assoc]
    ·show lC c ((i:Int),s)=_
     rw[DP,jD]
     simp only[bK,decide_eq_true hi,cond_true,bX,he,Option.bind_some,e1,e2]
     rw[cC (by omega)])
   (by
    rintro s ⟨j1,j2,j3⟩
    rw[List.take_length] at j2
    refine⟨.inr s,⟨s,rfl,j1,j2,j3⟩,?_⟩
    show lC c ((c.Clauses.length:Int),s)=_
    rw[DP,jD]
    simp only[bK,decide_eq_false (Nat.lt_irrefl _),cond_false]) ⟨List.Pairwise.nil,fun x=>by simp[ie],by simp⟩
  refine⟨r,?_,hr⟩
  unfold nL
  rw[show lC c (0,[])=some (.inr r) from h2]
  rfl
 obtain⟨r,e,p,m,l⟩:=hs
 refine⟨r,e,?_,p,m,by omega⟩
 obtain⟨y,h1,h2⟩:=ma (L:=fun i (s:List ah)=>nt c ((i:Int),s)) c.Clauses.length
  (fun i s=>s=ie (c.Clauses.take i)∧s.length≤16*i) (fun y=>y=.inr (ie c.Clauses)∧(ie c.Clauses).length≤16*c.Clauses.length) (s:=[])
  (by
   rintro i s hi ⟨j1,j2⟩
   have he:=List.getElem?_eq_getElem hi
   obtain⟨f1,f2⟩:=hcond i hi
   have hlen:=CQ c.Clauses[i].When
   refine .inl ⟨ie (c.Clauses.take (i+1)),⟨rfl,?_⟩,?_⟩
   ·rw[qc _ _ hi,←j1,List.length_append,List.length_cons];omega
   ·show nt c ((i:Int),s)=_
    rw[Fo,kY]
    simp only[bK,decide_eq_true hi,cond_true,bX,he,Option.bind_some]
    rw[xr (by omega) (by omega),Option.bind_some,L0 _ _ (by rw[List.length_append,List.length_singleton];omega),Option.bind_some,cC (by omega),qc _ _ hi,←j1,List.append_assoc]
    try rfl)
  (by
   rintro s ⟨j1,j2⟩
   rw[List.take_length] at j1
   refine⟨_,⟨rfl,by rw[←j1];exact j2⟩,?_⟩
   show nt c ((c.Clauses.length:Int),s)=_
   rw[Fo,kY]
   simp only[bK,decide_eq_false (Nat.lt_irrefl _),cond_false]
   rw[j1]) ⟨by simp[ie],by simp⟩
 unfold tA
 rw[show nt c (0,[])=some y from h2,h1.1,dt,Rj _ r (by omega) p m]
 rfl
noncomputable def jH (c:Contract):Bool:=(dJ (len c.Clauses) 1 12&&ot c.Parties)&&(gM c&&(match nL c with | some r=>decide (len r≤16) | none=>false))
theorem tu (c:Contract)(hc:eg c):zw c=some (jH c):=by
 unfold zw jH
 have hp:=Sk c.Parties c.Clauses hc.1
 rw[kb,show uQ c=_ from hp,Jx c hc,Option.bind_some]
 cases h1:dJ (len c.Clauses) 1 12 with | false=>rfl | true=>?_
 cases ot c.Parties with | false=>rfl | true=>?_
 cases h2:gM c with | false=>rfl | true=>?_
 rw[lQ] at h1
 obtain⟨r,e,_⟩:=zL c hc (by simp only[len] at h1;omega) h2
 rw[e]
 rfl
theorem th (c:Contract)(hc:eg c):H6 c=some (jH c):=by
 unfold H6 jH
 rw[Sh c.Parties hc.1,Jy c hc,Option.bind_some,iX]
 cases h1:dJ (len c.Clauses) 1 12 with | false=>cases ot c.Parties<;>rfl | true=>?_
 cases ot c.Parties with | false=>rfl | true=>?_
 cases h2:gM c with | false=>rfl | true=>?_
 rw[lQ] at h1
 obtain⟨r,e,e2,_⟩:=zL c hc (by simp only[len] at h1;omega) h2
 rw[e,e2]
 rfl
theorem ui {c:Contract}(h:jH c=true):1≤c.Clauses.length∧c.Clauses.length≤12∧ot c.Parties=true∧∀(i:Nat) e,c.Clauses[i]?=some e→iG c.Clauses e.Id=(i:Int)∧iZ c (i:Int) e=true:=by
 simp only[jH,Bool.and_eq_true,lQ] at h
 obtain⟨⟨⟨h1,h2⟩,h3⟩,h4,_⟩:=h
 simp only[len] at h1 h2
 exact⟨by omega,by omega,h3,oY.1 h4⟩
theorem Ce {α:Type}{L:Int→Option (Int⊕Unit)}{a:List α}{q:α→Bool}(h:L 0=some (match a.findIdx? q with | some i=>.inl (i:Int) | none=>.inr ())):((aW (ρ:=Int) (L 0) fun _:Unit=>some (-1)).bind fun r=>some (decide (r≥0)))=some (a.any q):=by
 rw[h]
 cases h1:a.findIdx? q with
 | none=>
  have:a.any q=false:=by
   rw[List.findIdx?_eq_none_iff] at h1
   rw[List.any_eq_false]
   intro x hx
   rw[h1 x hx]
   exact Bool.false_ne_true
  rw[this]
  rfl
 | some i=>
  have:a.any q=true:=by
   rw[List.findIdx?_eq_some_iff_getElem] at h1
   obtain⟨hi,he,_⟩:=h1
   rw[List.any_eq_true]
   exact⟨_,List.getElem_mem hi,he⟩
  rw[this]
  simp
def qy (l:List ah)(k:Nat):Bool:=match l[k]? with
 | some e=>eX e&&(match k with
  | 0=>true
  | j+1=>match l[j]? with
   | some p=>Op.bytesLess p e
   | none=>true)
 | none=>true
def lY (l:List ah):Bool:=decide (l.length≤16) && !((List.range l.length).any fun k=>!qy l k)
theorem XV (a b:ah):(Op.bytesLess b a||b==a)=!Op.bytesLess a b:=by
 rcases StrL.tri a b with h | h | h
 ·have h2:Op.bytesLess b a=false:=Bool.eq_false_iff.2 fun h3=>StrL.Lt.asymm h h3
  have h3:(b==a)=false:=beq_eq_false_iff_ne.2 fun e=>StrL.Lt.ne h e.symm
  rw[h2,h3,show Op.bytesLess a b=true from h];rfl
 ·subst h
  rw[StrL.lt_irrefl,beq_self_eq_true];rfl
 ·have h2:Op.bytesLess a b=false:=Bool.eq_false_iff.2 fun h3=>StrL.Lt.asymm h h3
  rw[h2,show Op.bytesLess b a=true from h];rfl
theorem tk (l:List ah)(hl:gp lz l)(k:Nat)(hk:k<l.length)(hk16:k≤16):gv l (k:Int)=bif !qy l k then some (.inl false) else gv l ((k+1:Nat):Int):=by
 have he:=List.getElem?_eq_getElem hk
 have hlen:l.length≤1048576:=hl.1
 rw[rQ,io,bK,decide_eq_true hk,cond_true,decide_eq_true (by omega),ft,cond_true,bX,he,Option.bind_some,nJ _ (hl.2 _ (List.getElem_mem hk)),Option.bind_some,cC (by omega)]
 cases k with
 | zero=>
  simp only[qy,he]
  cases eX l[0]<;>rfl
 | succ j=>
  have hj:j<l.length:=by omega
  rw[decide_eq_true (by omega),cond_true,show ar (((j+1:Nat):Int) - 1)=(j:Int) by rw[iO (by omega) (by omega)];omega,bX,List.getElem?_eq_getElem hj,Option.bind_some]
  simp only[qy,he,List.getElem?_eq_getElem hj,Option.bind_some]
  cases eX l[j+1]<;>cases Op.bytesLess l[j] l[j+1]<;>rfl
theorem F9 (l:List ah)(hl:gp lz l)(k:Nat)(hk:k<l.length):lX l (k:Int)=bif !qy l k then some (.inl false) else lX l ((k+1:Nat):Int):=by
 have he:=List.getElem?_eq_getElem hk
 have hlen:l.length≤1048576:=hl.1
 rw[F3,kQ,bK,decide_eq_true hk,cond_true,bX,he,Option.bind_some,ny _ (hl.2 _ (List.getElem_mem hk)),Option.bind_some,cC (by omega)]
 cases k with
 | zero=>
  simp only[qy,he]
  cases eX l[0]<;>rfl
 | succ j=>
  have hj:j<l.length:=by omega
  rw[decide_eq_true (by omega),cond_true,show ar (((j+1:Nat):Int) - 1)=(j:Int) by rw[iO (by omega) (by omega)];omega,bX,List.getElem?_eq_getElem hj,Option.bind_some,XV]
  simp only[qy,he,List.getElem?_eq_getElem hj]
  cases eX l[j+1]<;>cases Op.bytesLess l[j] l[j+1]<;>rfl
theorem np {L:Nat→Option (Bool⊕Unit)}{n:Nat}{q:Nat→Bool}(hs:∀k,k<n→L k=bif q k then some (.inl false) else L (k+1))(he:L n=some (.inr ())):L 0=some (if (List.range n).any q then .inl false else .inr ()):=by
 refine sv (a:=List.range n) (q:=q) (y0:=(Sum.inl false:Bool⊕Unit)) (y1:=.inr ()) (L:=L) (fun i x hx=>?_) (by rw[List.length_range];exact he)
 obtain⟨hi,hx'⟩:=List.getElem?_eq_some_iff.1 hx
 rw[List.getElem_range] at hx'
 subst hx'
 rw[List.length_range] at hi
 exact hs i hi
theorem MH (l:List ah)(hl:gp lz l):IE l=some (lY l):=by
 have hlen:l.length≤1048576:=hl.1
 have h:=np (L:=fun k=>lX l (k:Int)) (n:=l.length) (q:=fun k=>!qy l k) (fun k hk=>F9 l hl k hk) (by
  show lX l (l.length:Int)=_
  rw[F3,kQ,bK,decide_eq_false (Nat.lt_irrefl _),cond_false])
 unfold IE
 rw[show lX l 0=_ from h]
 unfold lY
 have h16:decide (len l≤16)=decide (l.length≤16):=by
  have:(len l≤16)↔l.length≤16:=by unfold len;omega
  simp only[this]
 cases (List.range l.length).any fun k=>!qy l k<;>simp[h16]
theorem LY (l:List ah)(hl:gp lz l):zr l=some (lY l):=by
 have hlen:l.length≤1048576:=hl.1
 have h16:decide (len l≤16)=decide (l.length≤16):=by
  have:(len l≤16)↔l.length≤16:=by unfold len;omega
  simp only[this]
 unfold zr
 by_cases hm:l.length≤16
 ·have h:=np (L:=fun k=>gv l (k:Int)) (n:=l.length) (q:=fun k=>!qy l k) (fun k hk=>tk l hl k hk (by omega)) (by
   show gv l (l.length:Int)=_
   rw[rQ,io,bK,decide_eq_false (Nat.lt_irrefl _),cond_false,ft,cond_false])
  rw[show gv l 0=_ from h]
  unfold lY
  cases (List.range l.length).any fun k=>!qy l k<;>simp[h16]
 ·have h:=np (L:=fun k=>gv l (k:Int)) (n:=17) (q:=fun k=>!qy l k) (fun k hk=>tk l hl k (by omega) (by omega)) (by
   show gv l ((17:Nat):Int)=_
   rw[rQ,io,bK]
   by_cases h17:17<l.length
   ·rw[decide_eq_true h17];rfl
   ·rw[decide_eq_false h17];rfl)
  rw[show gv l 0=_ from h]
  unfold lY
  rw[h16,decide_eq_false hm]
  cases (List.range 17).any fun k=>!qy l k<;>rfl
def uR (c:Contract)(i:ah):Bool:=c.Clauses.any fun x=>x.Repair==i
theorem Sq (c:Contract)(i:Int)(e:Clause)(he:aF c.Clauses i=some e)(hl:c.Clauses.length≤1048576):zA c i=some (uR c e.Id):=by
 unfold zA
 rw[rC (L:=qZ c i) (a:=c.Clauses) (p:=fun x=>some (x.Repair==e.Id)) (q:=fun x=>x.Repair==e.Id) (r:=true) (fun _ _=>rfl) (fun x=>by rw[LM,lb];simp only[he,Option.bind_some]) (by omega)]
 unfold uR
 cases c.Clauses.any fun x=>x.Repair==e.Id<;>rfl
theorem SS (c:Contract)(i:Int)(e:Clause)(he:aF c.Clauses i=some e)(hl:c.Clauses.length≤1048576):Hq c i=some (uR c e.Id):=by
 unfold Hq E6 EW
 rw[Ce (km (L:=qH c.Clauses (c,i)) (a:=c.Clauses) (p:=fun x=>HH x c i) (q:=fun x=>x.Repair==e.Id) (fun x _=>by rw[HH,he];rfl) (fun x=>by rw[Mk,kZ]) (by omega))]
 rfl
theorem R1 (s:State)(i:Int)(hl:s.Duties.length≤1048576):yD s i=some ((s.Duties.countP (fun d=>d.Clause==i):Nat):Int):=by
 unfold yD
 obtain⟨y,rfl,h⟩:=ma (L:=fun k (n:Int)=>kg s i (n,(k:Int))) s.Duties.length (fun k n=>n=(((s.Duties.take k).countP (fun d=>d.Clause==i):Nat):Int)) (fun y=>y=.inr ((s.Duties.countP (fun d=>d.Clause==i):Nat):Int)) (s:=0)
  (by
   rintro k n hk rfl
   have hx:=List.getElem?_eq_getElem hk
   refine .inl ⟨_,rfl,?_⟩
   show kg s i (_,(k:Int))=kg s i (_,((k+1:Nat):Int))
   rw[AF,jV]
   simp only[bK,decide_eq_true hk,cond_true,bX,hx,Option.bind_some,ft]
   rw[show ar ((k:Int)+1)=((k+1:Nat):Int) from cC (by omega)]
   have h1:(s.Duties.take (k+1)).countP (fun d=>d.Clause==i)=(s.Duties.take k).countP (fun d=>d.Clause==i)+if (s.Duties[k].Clause==i)=true then 1 else 0:=by
    rw[List.take_add_one,hx,List.countP_append,Option.toList_some,List.countP_singleton]
   have h2:=List.countP_le_length (l:=s.Duties.take k) (p:=fun d=>d.Clause==i)
   rw[List.length_take] at h2
   rw[h1]
   cases h3:s.Duties[k].Clause==i with
   | false=>simp
   | true=>rw[cond_true,iO (by omega) (by omega)];simp)
  (by
   rintro n rfl
   refine⟨_,rfl,?_⟩
   show kg s i (_,(s.Duties.length:Int))=_
   rw[AF,jV]
   simp only[bK,decide_eq_false (Nat.lt_irrefl _),cond_false,List.take_length]) (by simp)
 rw[show kg s i (0,0)=_ from h]
 rfl
theorem JD {α:Type}(l:List α)(i:Int)(hl:l.length≤1048576):dJ i 0 (ar (len l - 1))=(aF l i).isSome:=by
 unfold len
 rw[iO (by omega) (by omega)]
 unfold dJ aF
 by_cases h0:0≤i
 ·rw[if_pos h0,decide_eq_true h0,Bool.true_and]
  by_cases h1:i≤(l.length:Int) - 1
  ·rw[decide_eq_true h1,List.getElem?_eq_getElem (by omega)];rfl
  ·rw[decide_eq_false h1,List.getElem?_eq_none (by omega)];rfl
 ·rw[if_neg h0,decide_eq_false h0];rfl
def ov (D:List Duty)(k:Nat)(d:Duty):Bool:=match k with
 | 0=>false
 | j+1=>match D[j]? with
  | some p=>decide (p.Since>d.Since)
  | none=>false
def kM (s:State)(d:Duty):Bool:=bif d.Status==1 then (decide (d.Due≥s.Day) && !s.Over) else bif d.Status==2 then true else bif d.Status==3 then decide (d.Due<s.Day) else bif d.Status==4 then s.Over else false
def Ww (s:State)(d:Duty)(e:Clause):Bool:=(e.Kind==1)&&(dJ d.Since 0 s.Day&&((d.Due==ar (d.Since+e.Within))&&dJ d.Due 0 36524))
def vS (c:Contract)(s:State)(k:Nat)(d:Duty):Bool:=match aF c.Clauses d.Clause with
 | some e=>Ww s d e&&(!ov s.Duties k d&&kM s d)
 | none=>false
def ta (c:Contract)(i:Int):Bool:=match aF c.Clauses i with
 | some e=>uR c e.Id
 | none=>false
theorem YM {s:State}{d:Duty}(h:kM s d=true):dJ d.Status 1 4=true:=by
 unfold kM at h
 rw[lQ]
 cases h1:d.Status==1 with
 | true=>have:=eq_of_beq h1;omega
 | false=>
  cases h2:d.Status==2 with
  | true=>have:=eq_of_beq h2;omega
  | false=>
   cases h3:d.Status==3 with
   | true=>have:=eq_of_beq h3;omega
   | false=>
    cases h4:d.Status==4 with
    | true=>have:=eq_of_beq h4;omega
    | false=>rw[h1,h2,h3,h4] at h;cases h
theorem W6 (s:State)(d:Duty)(h:dJ d.Status 1 4=true):(bif d.Status==1 then (bif decide (d.Due<s.Day) then true else (bif s.Over then true else (bif d.Status==3 then (bif decide (d.Due≥s.Day) then true else (bif d.Status==4 then !s.Over else false)) else (bif d.Status==4 then !s.Over else false)))) else (bif d.Status==3 then (bif decide (d.Due≥s.Day) then true else (bif d.Status==4 then !s.Over else false)) else (bif d.Status==4 then !s.Over else false)))=!kM s d:=by
 rw[lQ] at h
 unfold kM
 have hd:decide (d.Due≥s.Day)=!decide (d.Due<s.Day):=by
  by_cases h2:d.Due<s.Day
  ·rw[decide_eq_true h2,decide_eq_false (by omega)];rfl
  ·rw[decide_eq_false h2,decide_eq_true (by omega)];rfl
 rw[hd]
 generalize decide (d.Due<s.Day)=x
 have h4:d.Status=1∨d.Status=2∨d.Status=3∨d.Status=4:=by omega
 rcases h4 with h4 | h4 | h4 | h4<;>rw[h4]<;>cases x<;>cases s.Over<;>rfl
theorem NJ (c:Contract)(s:State)(k:Nat)(hk:k<s.Duties.length)(hl:s.Duties.length≤1048576)(hc:c.Clauses.length≤1048576) :
  ye c s (k:Int)=some (vS c s k s.Duties[k]&&(ta c s.Duties[k].Clause||s.Duties.countP (fun d=>d.Clause==s.Duties[k].Clause)==1)):=by
 have he:=List.getElem?_eq_getElem hk
 unfold ye
 rw[bX,he,Option.bind_some]
 have hp:∀(f:Bool→Option (Bool⊕Bool)) (g:Duty→Option (Bool⊕Bool)) ,(∀p,g p=f (decide (p.Since>s.Duties[k].Since)))→(bif decide ((k:Int)>0) then ((aF s.Duties (ar ((k:Int) - 1))).bind g) else f false)=f (ov s.Duties k s.Duties[k]):=by
  intro f g hg
  cases k with
  | zero=>rfl
  | succ j=>
   have hj:j<s.Duties.length:=by omega
   rw[decide_eq_true (by omega),cond_true,show ar (((j+1:Nat):Int) - 1)=(j:Int) by rw[iO (by omega) (by omega)];omega,bX,List.getElem?_eq_getElem hj,Option.bind_some,hg]
   simp only[ov,List.getElem?_eq_getElem hj]
 generalize s.Duties[k]=d at *
 rw[kb,Option.bind_some,JD _ _ hc]
 unfold vS
 cases hg:aF c.Clauses d.Clause with
 | none=>rfl
 | some e=>
  rw[Option.isSome_some]
  simp only[Bool.not_true,cond_false,Option.bind_some,kb,pc]
  unfold Ww
  cases h1:e.Kind==1 with
  | false=>rw[bne,h1];rfl
  | true=>
   rw[bne,h1]
   cases h2:dJ d.Since 0 s.Day with
   | false=>rfl
   | true=>
    cases h3:d.Due==ar (d.Since+e.Within) with
    | false=>rw[bne,h3];rfl
    | true=>
     rw[bne,h3]
     cases h4:dJ d.Due 0 36524 with
     | false=>rfl
     | true=>
      cases h5:dJ d.Status 1 4 with
      | false=>
       have:kM s d=false:=Bool.eq_false_iff.2 fun h=>by rw[YM h] at h5;cases h5
       rw[this]
       simp
      | true=>
       simp only[Bool.not_true,cond_false,fH,dt,ft,W6 s d h5]
       rw[show (bif decide ((k:Int)>0) then (aF s.Duties (ar ((k:Int) - 1))).bind (fun e11=>(some (.inr (bif decide (e11.Since>d.Since) then true else !kM s d)):Option (Bool⊕Bool))) else some (.inr (!kM s d)))=some (.inr (bif ov s.Duties k d then true else !kM s d)) from hp (fun b=>some (.inr (bif b then true else !kM s d))) _ (fun p=>rfl)]
       rw[dt]
       rw[show ta c d.Clause=uR c e.Id by unfold ta;rw[hg],Sq c _ e hg hc,R1 s _ hl]
       have hcn:∀n:Nat,((n:Int)==1)=(n==1):=fun n=>by
        by_cases h:n=1
        ·subst h;rfl
        ·rw[beq_eq_false_iff_ne.2 h,beq_eq_false_iff_ne.2 (by omega)]
       simp only[Option.bind_some,hcn]
       generalize (List.countP (fun d_1=>d_1.Clause==d.Clause) s.Duties==1)=z
       cases ov s.Duties k d<;>cases kM s d<;>cases uR c e.Id<;>cases z<;>rfl
def pz (D:List Duty)(k:Nat)(i:Int):Bool:=(D.take k).any fun o=>o.Clause==i
theorem Qg (c:Contract)(s:State)(k:Nat)(hk:k<s.Duties.length)(hl:s.Duties.length≤1048576)(hc:c.Clauses.length≤1048576) :
  Jc c s (k:Int)=some (vS c s k s.Duties[k]&&(ta c s.Duties[k].Clause || !pz s.Duties k s.Duties[k].Clause)):=by
 have he:=List.getElem?_eq_getElem hk
 unfold Jc
 rw[bX,he,Option.bind_some]
 have hp:∀(f:Bool→Option (Bool⊕Bool)) (g:Duty→Option (Bool⊕Bool)) ,(∀p,g p=f (decide (p.Since>s.Duties[k].Since)))→(bif decide ((k:Int)>0) then ((aF s.Duties (ar ((k:Int) - 1))).bind g) else f false)=f (ov s.Duties k s.Duties[k]):=by
  intro f g hg
  cases k with
  | zero=>rfl
  | succ j=>
   have hj:j<s.Duties.length:=by omega
   rw[decide_eq_true (by omega),cond_true,show ar (((j+1:Nat):Int) - 1)=(j:Int) by rw[iO (by omega) (by omega)];omega,bX,List.getElem?_eq_getElem hj,Option.bind_some,hg]
   simp only[ov,List.getElem?_eq_getElem hj]
 generalize s.Duties[k]=d at *
 rw[iX,Option.bind_some,JD _ _ hc]
 unfold vS
 cases hg:aF c.Clauses d.Clause with
 | none=>rfl
 | some e=>
  rw[Option.isSome_some]
  simp only[Bool.not_true,cond_false,Option.bind_some,iX,mz]
  unfold Ww
  cases h1:e.Kind==1 with
  | false=>rw[bne,h1];rfl
  | true=>
   rw[bne,h1]
   cases h2:dJ d.Since 0 s.Day with
   | false=>rfl
   | true=>
    cases h3:d.Due==ar (d.Since+e.Within) with
    | false=>rw[bne,h3];rfl
    | true=>
     rw[bne,h3]
     cases h4:dJ d.Due 0 36524 with
     | false=>rfl
     | true=>
      simp only[Bool.not_true,cond_false,fH,dt]
      rw[show (bif decide ((k:Int)>0) then (aF s.Duties (ar ((k:Int) - 1))).bind (fun e17=>(some (.inr (decide (d.Since<e17.Since))):Option (Bool⊕Bool))) else some (.inr false))=some (.inr (ov s.Duties k d)) from hp (fun b=>some (.inr b)) _ (fun p=>rfl)]
      simp only[fH,dt]
      cases ov s.Duties k d with
      | true=>rfl
      | false=>
       rw[cond_false,SS c _ e hg hc,Option.bind_some,xy (by omega),Option.bind_some]
       unfold EN E0
       rw[Ce (km (L:=qC (s.Duties.take k) d) (a:=s.Duties.take k) (p:=fun x=>KI x d) (q:=fun o=>o.Clause==d.Clause) (fun x _=>rfl) (fun x=>by rw[LL,lF]) (by rw[List.length_take];omega))]
       rw[show ta c d.Clause=uR c e.Id by unfold ta;rw[hg]]
       unfold pz kM
       cases uR c e.Id<;>cases ((s.Duties.take k).any fun o=>o.Clause==d.Clause)<;>cases (d.Status==1)<;>cases (d.Status==2)<;>cases (d.Status==3)<;>cases (d.Status==4)<;>cases s.Over<;>cases decide (d.Due≥s.Day)<;>cases decide (d.Due<s.Day)<;>rfl
def om (c:Contract)(s:State)(k:Nat):Bool:=match s.Duties[k]? with
 | some d=>vS c s k d&&(ta c d.Clause||s.Duties.countP (fun o=>o.Clause==d.Clause)==1)
 | none=>true
def oc (c:Contract)(s:State)(k:Nat):Bool:=match s.Duties[k]? with
 | some d=>vS c s k d&&(ta c d.Clause || !pz s.Duties k d.Clause)
 | none=>true
theorem FF (D:List Duty)(k:Nat)(hk:k<D.length)(p:Duty→Bool):D.countP p=(D.take k).countP p+((if p D[k]=true then 1 else 0)+(D.drop (k+1)).countP p):=by
 conv=>lhs;rw[←List.take_append_drop k D,List.drop_eq_getElem_cons hk]
 rw[List.countP_append,List.countP_cons]
 omega
theorem O8 (c:Contract)(s:State):((List.range s.Duties.length).any fun k=>!om c s k)=((List.range s.Duties.length).any fun k=>!oc c s k):=by
 have key:(∀k,k<s.Duties.length→om c s k=true)↔(∀k,k<s.Duties.length→oc c s k=true):=by
  constructor
  ·intro h k hk
   have h1:=h k hk
   unfold om at h1
   unfold oc
   rw[List.getElem?_eq_getElem hk] at h1 ⊢
   simp only[Bool.and_eq_true,Bool.or_eq_true,beq_iff_eq] at h1 ⊢
   refine⟨h1.1,h1.2.imp id fun h2=>?_⟩
   have h3:=FF s.Duties k hk (fun o=>o.Clause==s.Duties[k].Clause)
   rw[if_pos (by simp),h2] at h3
   have h4:(s.Duties.take k).countP (fun o=>o.Clause==s.Duties[k].Clause)=0:=by omega
   rw[List.countP_eq_zero] at h4
   rw[Bool.not_eq_true',pz,List.any_eq_false]
   exact h4
  ·intro h k hk
   have h1:=h k hk
   unfold oc at h1
   unfold om
   rw[List.getElem?_eq_getElem hk] at h1 ⊢
   simp only[Bool.and_eq_true,Bool.or_eq_true,beq_iff_eq] at h1 ⊢
   refine⟨h1.1,?_⟩
   cases hd:ta c s.Duties[k].Clause with
   | true=>exact .inl rfl
   | false=>
    refine .inr ?_
    have h2:pz s.Duties k s.Duties[k].Clause=false:=by
     rcases h1.2 with h2 | h2
     ·rw[hd] at h2;cases h2
     ·simpa using h2
    rw[FF s.Duties k hk (fun o=>o.Clause==s.Duties[k].Clause),if_pos (by simp)]
    have e1:(s.Duties.take k).countP (fun o=>o.Clause==s.Duties[k].Clause)=0:=by
     rw[List.countP_eq_zero]
     rw[pz,List.any_eq_false] at h2
     exact h2
    have e2:(s.Duties.drop (k+1)).countP (fun o=>o.Clause==s.Duties[k].Clause)=0:=by
     rw[List.countP_eq_zero]
     intro x hx hq
     obtain⟨j,hj,rfl⟩:=List.mem_iff_getElem.1 hx
     rw[List.length_drop] at hj
     rw[List.getElem_drop] at hq
     have h5:=h (k+1+j) (by omega)
     unfold oc at h5
     rw[List.getElem?_eq_getElem (by omega)] at h5
     simp only[Bool.and_eq_true,Bool.or_eq_true] at h5
     rw[beq_iff_eq] at hq
     rw[hq,hd] at h5
     have h6:pz s.Duties (k+1+j) s.Duties[k].Clause=true:=by
      rw[pz,List.any_eq_true]
      refine⟨s.Duties[k],?_,by simp⟩
      rw[List.mem_iff_getElem]
      exact⟨k,by rw[List.length_take];omega,by rw[List.getElem_take]⟩
     rw[h6] at h5
     simp at h5
    omega
 rw[Bool.eq_iff_iff,List.any_eq_true,List.any_eq_true]
 have k2:=not_congr key
 simp only[Classical.not_forall] at k2
 simp only[List.mem_range,Bool.not_eq_true']
 constructor
 ·rintro⟨k,hk,hq⟩
  obtain⟨j,hj,hq2⟩:=k2.1 ⟨k,hk,by simp[hq]⟩
  exact⟨j,hj,by simpa using hq2⟩
 ·rintro⟨k,hk,hq⟩
  obtain⟨j,hj,hq2⟩:=k2.2 ⟨k,hk,by simp[hq]⟩
  exact⟨j,hj,by simpa using hq2⟩
def sf (x:Int):Bool:=dJ x (-1000000000) 1000000000
theorem Yt (l:List Int)(hl:l.length≤1048576):∃v,si l=some v∧tZ l=some v:=by
 have h:∃v,jb l (0,0)=some (.inr v):=by
  obtain⟨y,⟨v,rfl⟩,h⟩:=ma (L:=fun k (n:Int)=>jb l (n,(k:Int))) l.length (fun k n=>True) (fun y=>∃v,y=.inr v) (s:=0)
   (by
    intro k n hk _
    refine .inl ⟨ar (n+l[k]),trivial,?_⟩
    show jb l (_,(k:Int))=jb l (_,((k+1:Nat):Int))
    rw[AX,jr]
    simp only[bK,decide_eq_true hk,cond_true,bX,List.getElem?_eq_getElem hk,Option.bind_some]
    rw[show ar ((k:Int)+1)=((k+1:Nat):Int) from cC (by omega)])
   (by
    intro n _
    refine⟨.inr n,⟨n,rfl⟩,?_⟩
    show jb l (_,(l.length:Int))=_
    rw[AX,jr]
    simp only[bK,decide_eq_false (Nat.lt_irrefl _),cond_false]) trivial
  exact⟨v,h⟩
 obtain⟨v,h⟩:=h
 refine⟨v,?_,?_⟩
 ·unfold si;rw[h];rfl
 ·unfold tZ;rw[show Fd l (0,0)=jb l (0,0) from rfl,h];rfl
structure StF (c:Contract) (s:State) (names:List ah):Prop where
 day:dJ s.Day 0 36524=true
 facts:lY s.Facts=true
 sub:s.Facts.all (fun f=>names.contains f)=true
 dl:s.Duties.length≤24
 bl:s.Balances.length=c.Parties.length
 dut:∀k,k<s.Duties.length→om c s k=true
 amt:s.Balances.all sf=true
 sum:si s.Balances=some 0
noncomputable def vt (c:Contract)(s:State)(names:List ah)(v:Int):Bool:=
 dJ s.Day 0 36524&&(lY s.Facts&&(decide (s.Duties.length≤24)&&((s.Balances.length==c.Parties.length)&&(s.Facts.all (fun f=>names.contains f)&&(!((List.range s.Duties.length).any fun k=>!om c s k)&&(s.Balances.all sf&&v==0))))))
theorem Mw (c:Contract)(s:State)(hc:eg c)(hs:gL s)(hb:jH c=true){names:List ah}(hn:nL c=some names)(hnl:names.length≤1048576){v:Int}(hv:si s.Balances=some v):sD c s=some (vt c s names v):=by
 have hdl:s.Duties.length≤1048576:=hs.2.2.1.1
 have hbl:s.Balances.length≤1048576:=hs.2.2.2.1.1
 have hfl:s.Facts.length≤1048576:=hs.2.1.1
 have hcl:c.Clauses.length≤1048576:=hc.2.1
 unfold sD vt
 rw[tu c hc,Option.bind_some,hb]
 simp only[Bool.not_true,cond_false]
 rw[show pc s.Day=some (dJ s.Day 0 36524) by unfold pc;rw[kb];rfl,Option.bind_some]
 cases dJ s.Day 0 36524 with
 | false=>rfl
 | true=>
  simp only[Bool.not_true,cond_false]
  rw[LY _ hs.2.1,Option.bind_some]
  cases lY s.Facts with
  | false=>rfl
  | true=>
   simp only[Bool.not_true,cond_false,ft]
   have h24:decide (len s.Duties>24)=!decide (s.Duties.length≤24):=by
    by_cases h:s.Duties.length≤24
    ·rw[decide_eq_true h,decide_eq_false (by unfold len;omega)];rfl
    ·rw[decide_eq_false h,decide_eq_true (by unfold len;omega)];rfl
   rw[h24]
   cases decide (s.Duties.length≤24) with
   | false=>rfl
   | true=>
    have hbe:(len s.Balances != len c.Parties)=!(s.Balances.length==c.Parties.length):=by
     unfold len
     by_cases h:s.Balances.length=c.Parties.length
     ·rw[h,bne,beq_self_eq_true,beq_self_eq_true]
     ·rw[bne,beq_eq_false_iff_ne.2 h,beq_eq_false_iff_ne.2 (by omega)]
    simp only[Bool.not_true,cond_false]
    rw[hbe]
    cases s.Balances.length==c.Parties.length with
    | false=>rfl
    | true=>
     simp only[Bool.not_true,cond_false,fH,dt]
     rw[hn,Option.bind_some]
     rw[Ep (L:=rq c s names) (a:=s.Facts) (f:=fun e=>nR names e) (p:=fun f=>names.contains f) (fun x _=>K1 names x hnl) (fun x=>by rw[ME,lP]) (by omega)]
     cases s.Facts.all (fun f=>names.contains f) with
     | false=>rfl
     | true=>
      rw[if_pos rfl,dt]
      have h:=np (L:=fun k=>lu c s (k:Int)) (n:=s.Duties.length) (q:=fun k=>!om c s k) (fun k hk=>by
       show lu c s (k:Int)=_
       rw[Ab,jS,bK,decide_eq_true hk,cond_true,NJ c s k hk hdl hcl,Option.bind_some,cC (by omega)]
       unfold om
       rw[List.getElem?_eq_getElem hk]) (by
       show lu c s (s.Duties.length:Int)=_
       rw[Ab,jS,bK,decide_eq_false (Nat.lt_irrefl _),cond_false])
      rw[show lu c s 0=_ from h]
      cases (List.range s.Duties.length).any fun k=>!om c s k with
      | true=>rfl
      | false=>
       rw[if_neg Bool.false_ne_true,dt]
       rw[Ep (L:=qT c s) (a:=s.Balances) (f:=yZ) (p:=sf) (fun x _=>by unfold yZ;rw[kb];rfl) (fun x=>by rw[MP,lD]) (by omega)]
       cases s.Balances.all sf with
       | false=>rfl
       | true=>
        rw[if_pos rfl,dt,hv]
        rfl
theorem Mz (c:Contract)(s:State)(hc:eg c)(hs:gL s){names:List ah}(hn:tA c=some names)(hnl:names.length≤1048576){v:Int}(hv:tZ s.Balances=some v):IW c s=some (vt c s names v):=by
 have hdl:s.Duties.length≤1048576:=hs.2.2.1.1
 have hbl:s.Balances.length≤1048576:=hs.2.2.2.1.1
 have hfl:s.Facts.length≤1048576:=hs.2.1.1
 have hcl:c.Clauses.length≤1048576:=hc.2.1
 unfold IW vt
 rw[hn,Option.bind_some]
 rw[show mz s.Day=some (dJ s.Day 0 36524) by unfold mz;rw[iX];rfl,Option.bind_some]
 cases dJ s.Day 0 36524 with
 | false=>rfl
 | true=>
  simp only[Bool.not_true,cond_false]
  rw[MH _ hs.2.1,Option.bind_some]
  cases lY s.Facts with
  | false=>rfl
  | true=>
   simp only[Bool.not_true,cond_false]
   unfold EU Fe
   rw[Ce (km (L:=rd s.Facts names) (a:=s.Facts) (p:=fun x=>IK x names) (q:=fun f=>!names.contains f) (fun x _=>by rw[IK,um names x hnl];rfl) (fun x=>by rw[L3,lj]) (by omega))]
   have ha:(s.Facts.any fun f=>!names.contains f)=!(s.Facts.all fun f=>names.contains f):=by rw[List.not_all_eq_any_not]
   rw[ha,Option.bind_some]
   have h24:decide (len s.Duties>24)=!decide (s.Duties.length≤24):=by
    by_cases h:s.Duties.length≤24
    ·rw[decide_eq_true h,decide_eq_false (by unfold len;omega)];rfl
    ·rw[decide_eq_false h,decide_eq_true (by unfold len;omega)];rfl
   have hbe:(len s.Balances != len c.Parties)=!(s.Balances.length==c.Parties.length):=by
    unfold len
    by_cases h:s.Balances.length=c.Parties.length
    ·rw[h,bne,beq_self_eq_true,beq_self_eq_true]
    ·rw[bne,beq_eq_false_iff_ne.2 h,beq_eq_false_iff_ne.2 (by omega)]
   rw[h24,hbe]
   cases s.Facts.all (fun f=>names.contains f) with
   | false=>cases decide (s.Duties.length≤24)<;>cases s.Balances.length==c.Parties.length<;>rfl
   | true=>
    simp only[Bool.not_true,fH,dt,cond_false]
    cases decide (s.Duties.length≤24) with
    | false=>rfl
    | true=>
     cases s.Balances.length==c.Parties.length with
     | false=>rfl
     | true=>
      simp only[Bool.not_true,cond_false,fH,dt,hv,Option.bind_some]
      have h:=np (L:=fun k=>nB c s (k:Int)) (n:=s.Duties.length) (q:=fun k=>!oc c s k) (fun k hk=>by
       show nB c s (k:Int)=_
       rw[F0,kU,bK,decide_eq_true hk,cond_true,Qg c s k hk hdl hcl,Option.bind_some,cC (by omega)]
       unfold oc
       rw[List.getElem?_eq_getElem hk]) (by
       show nB c s (s.Duties.length:Int)=_
       rw[F0,kU,bK,decide_eq_false (Nat.lt_irrefl _),cond_false])
      rw[show nB c s 0=_ from h,O8]
      unfold Ew Em
      rw[Ce (km (L:=qR s.Balances ()) (a:=s.Balances) (p:=fun x=>Hj x) (q:=fun b=>!sf b) (fun x _=>by rw[Hj,KE,iX];rfl) (fun x=>by rw[Mo,lr]) (by omega))]
      have hb2:(s.Balances.any fun b=>!sf b)=!(s.Balances.all sf):=by rw[List.not_all_eq_any_not]
      rw[hb2]
      cases hv0:v==0 with
      | false=>
       rw[bne,hv0]
       cases (List.range s.Duties.length).any fun k=>!oc c s k<;>cases s.Balances.all sf<;>rfl
      | true=>
       rw[bne,hv0]
       cases (List.range s.Duties.length).any fun k=>!oc c s k<;>cases s.Balances.all sf<;>rfl
theorem X5 (c:Contract)(s:State)(hc:eg c)(hs:gL s):∃b,sD c s=some b∧FO c s=some b∧(b=true→jH c=true∧∃names,nL c=some names∧tA c=some names∧StF c s names):=by
 cases hb:jH c with
 | false=>
  refine⟨false,?_,?_,by simp⟩
  ·unfold sD;rw[tu c hc,Option.bind_some,hb];rfl
  ·unfold FO;rw[th c hc,Option.bind_some,hb];rfl
 | true=>
  obtain⟨f1,f2,f3,f4⟩:=ui hb
  obtain⟨names,n1,n2,n3,n4⟩:=zL c hc f2 (oY.2 f4)
  obtain⟨v,v1,v2⟩:=Yt s.Balances hs.2.2.2.1.1
  have hnl:names.length≤1048576:=Nat.le_trans n4.2 (by decide)
  refine⟨_,Mw c s hc hs hb n1 hnl v1,?_,fun h=>⟨rfl,names,n1,n2,?_⟩⟩
  ·unfold FO
   rw[th c hc,Option.bind_some,hb,cond_true,Mz c s hc hs n2 hnl v2]
   rfl
  ·unfold vt at h
   simp only[Bool.and_eq_true,decide_eq_true_eq,beq_iff_eq,Bool.not_eq_true'] at h
   obtain⟨g1,g2,g3,g4,g5,g6,g7,g8⟩:=h
   refine⟨g1,g2,g5,g3,g4,fun k hk=>?_,g7,by rw[v1,g8]⟩
   rw[List.any_eq_false] at g6
   have:=g6 k (List.mem_range.2 hk)
   simpa using this
theorem JC (a:List ah)(s:ah)(ha:a.length≤1048576):l6 a s=some (a.contains s):=by
 unfold l6 vr
 rw[km (L:=mM a s) (a:=a) (p:=fun e=>some (s==e)) (q:=fun e=>s==e) (fun _ _=>rfl) (fun x=>by rw[ss,il]<;>rfl) (by omega)]
 cases h:a.findIdx? (fun e=>s==e) with
 | none=>
  have:a.contains s=false:=by
   rw[List.findIdx?_eq_none_iff] at h
   rw[Bool.eq_false_iff]
   intro hc
   rw[List.contains_iff_exists_mem_beq] at hc
   obtain⟨w,hw,he⟩:=hc
   rw[h w hw] at he
   cases he
  rw[this]
  rfl
 | some i=>
  have:a.contains s=true:=by
   rw[List.findIdx?_eq_some_iff_getElem] at h
   obtain⟨hi,he,_⟩:=h
   rw[List.contains_iff_exists_mem_beq]
   exact⟨_,List.getElem_mem hi,he⟩
  rw[this]
  simp
theorem Vh (a:List ah)(s:ah)(ha:a.length≤1048576):nR a s=some (a.contains s):=by
 unfold nR
 rw[rC (L:=oH a s) (a:=a) (p:=fun e=>some (e==s)) (r:=true) (q:=fun e=>e==s) (fun x _=>rfl) (fun x=>by rw[Bd,jW]<;>rfl) (by omega)]
 have:a.any (fun e=>e==s)=a.contains s:=by
  rw[List.contains_eq_any_beq]
  congr 1
  funext e
  exact Bool.beq_comm
 rw[this]
 cases a.contains s<;>rfl
theorem RG {c:Condition}(h:nY c=true):(c.Op=1∧c.Parts=[])∨(c.Op=2∧c.Parts=[])∨(c.Op=3∧c.Parts=[])∨(c.Op=4∧∃p,c.Parts=[p])∨(c.Op=5∧∃p q,c.Parts=[p,q])∨(c.Op=6∧∃p q,c.Parts=[p,q]):=by
 rw[sL,zg,IX] at h
 rw[Bool.and_eq_true,Bool.and_eq_true,decide_eq_true_iff,lQ] at h
 obtain⟨⟨⟨h1,h2⟩,h3⟩,_⟩:=h
 have ho:c.Op=1∨c.Op=2∨c.Op=3∨c.Op=4∨c.Op=5∨c.Op=6:=by omega
 have two:∀{a:List Condition},a.length=2→∃p q,a=[p,q]:=fun {a} h=>by
  match a,h with
  | [p,q],_=>exact⟨p,q,rfl⟩
 have one:∀{a:List Condition},a.length=1→∃p,a=[p]:=fun {a} h=>by
  match a,h with
  | [p],_=>exact⟨p,rfl⟩
 rcases ho with h | h | h | h | h | h<;>simp only[h] at h3 ⊢
 ·exact .inl ⟨trivial,List.length_eq_zero_iff.1 (by simpa using h3)⟩
 ·exact .inr (.inl ⟨trivial,List.length_eq_zero_iff.1 (by simpa using h3)⟩)
 ·exact .inr (.inr (.inl ⟨trivial,List.length_eq_zero_iff.1 (by simpa using h3)⟩))
 ·exact .inr (.inr (.inr (.inl ⟨trivial,one (by simpa using h3)⟩)))
 ·exact .inr (.inr (.inr (.inr (.inl ⟨trivial,two (by simpa using h3)⟩))))
 ·exact .inr (.inr (.inr (.inr (.inr ⟨trivial,two (by simpa using h3)⟩))))
theorem KT (c:Condition):dQ c=true→∀(f:List ah) (d:Int),f.length≤1048576→∃b,ER c f d=some b∧Il c f d=some b:=by
 refine eE (P:=fun c=>dQ c=true→∀(f:List ah) (d:Int),f.length≤1048576→∃b,ER c f d=some b∧Il c f d=some b) ?_ c
 intro c ih hf f d hl
 rw[pF,Bool.and_eq_true,List.all_eq_true] at hf
 obtain⟨hf,hp⟩:=hf
 rw[U0,X7]
 unfold rJ vN
 have g0:∀{p:Condition} {l:List Condition},aF (p::l) 0=some p:=rfl
 have g1:∀{p q:Condition} {l:List Condition},aF (p::q::l) 1=some q:=rfl
 rcases RG hf with⟨o,e⟩ | ⟨o,e⟩ | ⟨o,e⟩ | ⟨o,p,e⟩ | ⟨o,p,q,e⟩ | ⟨o,p,q,e⟩
 ·exact⟨true,by rw[o];rfl,by rw[o];rfl⟩
 ·exact⟨f.contains c.Name,by rw[o,Vh f _ hl];rfl,by rw[o,JC f _ hl];rfl⟩
 ·exact⟨decide (d≥c.Day),by rw[o];rfl,by rw[o];rfl⟩
 ·rw[e] at ih hp
  obtain⟨b,h1,h2⟩:=ih p (by simp) (hp p (by simp)) f d hl
  refine⟨!b,?_,?_⟩
  ·rw[o,e]
   simp only[Int.reduceBEq,cond_false,cond_true]
   rw[g0,Option.bind_some,show aE jQ (p,f,d)=_ from h1];rfl
  ·rw[o,e]
   simp only[Int.reduceBEq,cond_false,cond_true]
   rw[g0,Option.bind_some,show aE l5 (p,f,d)=_ from h2];rfl
 ·rw[e] at ih hp
  obtain⟨b,h1,h2⟩:=ih p (by simp) (hp p (by simp)) f d hl
  obtain⟨b',h3,h4⟩:=ih q (by simp) (hp q (by simp)) f d hl
  refine⟨b&&b',?_,?_⟩
  ·rw[o,e]
   simp only[Int.reduceBEq,cond_false,cond_true]
   rw[g0,g1,Option.bind_some,show aE jQ (p,f,d)=_ from h1,Option.bind_some]
   cases b with
   | false=>rfl
   | true=>rw[cond_true,Option.bind_some,show aE jQ (q,f,d)=_ from h3];rfl
  ·rw[o,e]
   simp only[Int.reduceBEq,cond_false,cond_true]
   rw[g0,g1,Option.bind_some,show aE l5 (p,f,d)=_ from h2,Option.bind_some]
   cases b with
   | false=>rfl
   | true=>rw[cond_true,Option.bind_some,show aE l5 (q,f,d)=_ from h4];rfl
 ·rw[e] at ih hp
  obtain⟨b,h1,h2⟩:=ih p (by simp) (hp p (by simp)) f d hl
  obtain⟨b',h3,h4⟩:=ih q (by simp) (hp q (by simp)) f d hl
  refine⟨b||b',?_,?_⟩
  ·rw[o,e]
   simp only[Int.reduceBEq,cond_false,cond_true]
   rw[g0,g1,Option.bind_some,show aE jQ (p,f,d)=_ from h1,Option.bind_some]
   cases b with
   | true=>rfl
   | false=>rw[cond_false,Option.bind_some,show aE jQ (q,f,d)=_ from h3];rfl
  ·rw[o,e]
   simp only[Int.reduceBEq,cond_false,cond_true]
   rw[g0,g1,Option.bind_some,show aE l5 (p,f,d)=_ from h2,Option.bind_some]
   cases b with
   | true=>rfl
   | false=>rw[cond_false,Option.bind_some,show aE l5 (q,f,d)=_ from h4];rfl
noncomputable def BT (c:Condition)(f:List ah)(d:Int):Bool:=(Il c f d).getD false
theorem QL {c:Condition}(h:dQ c=true){f:List ah}{d:Int}(hl:f.length≤1048576):ER c f d=some (BT c f d):=by
 obtain⟨b,h1,h2⟩:=KT c h f d hl
 unfold BT
 rw[h1,h2];rfl
theorem Oz {c:Condition}(h:dQ c=true){f:List ah}{d:Int}(hl:f.length≤1048576):Il c f d=some (BT c f d):=by
 obtain⟨b,h1,h2⟩:=KT c h f d hl
 unfold BT
 rw[h2];rfl
theorem Om (a:List ah)(ha:a.length≤1048576):xK a=some a:=by
 unfold xK vc gO
 rw[if_pos (by simp only[List.length_nil,jg];omega)]
 cases a<;>simp[vW]
theorem LP (a:List Duty)(ha:a.length≤1048576):yO a=some a:=by
 unfold yO vc gO
 rw[if_pos (by simp only[List.length_nil,jg];omega)]
 cases a<;>simp[vW]
theorem M2 (a:List Int)(ha:a.length≤1048576):yi a=some a:=by
 unfold yi vc gO
 rw[if_pos (by simp only[List.length_nil,jg];omega)]
 cases a<;>simp[vW]
theorem NA (s:State)(hs:gL s):Hi s=some s:=by
 unfold Hi
 rw[Om _ hs.2.1.1,LP _ hs.2.2.1.1,M2 _ hs.2.2.2.1.1]
 rfl
theorem VF (c:Contract)(s:State)(hs:gL s){names:List ah}(hn:tA c=some names):Hv c s=some ⟨c,s,names,[],false⟩:=by
 unfold Hv
 rw[NA s hs,Option.bind_some,hn]
 rfl
theorem Ld {c:Contract}(h:jH c=true){i:Int}{e:Clause}(he:aF c.Clauses i=some e):dQ e.When=true:=by
 unfold aF at he
 split at he
 ·have h1:=tK ((ui h).2.2.2 _ e he).2
  simp only[mZ,Bool.and_eq_true] at h1
  exact h1.1
 ·cases he
theorem MF (c:Contract)(s:State)(names:List ah)(t:List Entry)(b:Bool)(hs:gL s){i:Int}{e:Clause}(h:jH c=true)(he:aF c.Clauses i=some e):IU ⟨c,s,names,t,b⟩ e=some (BT e.When s.Facts s.Day):=by
 unfold IU
 rw[Oz (Ld h he) hs.2.1.1]
 rfl
theorem Rf (c:Contract)(s:State)(i:Int)(hc:eg c)(hs:gL s):∃r,yz c s i=some r∧Jd c s i=some r:=by
 obtain⟨b,g1,g2,g3⟩:=X5 c s hc hs
 unfold yz Jd
 rw[g1,g2,Option.bind_some,Option.bind_some]
 cases b with
 | false=>exact⟨_,rfl,rfl⟩
 | true=>
  obtain⟨h,names,n1,n2,f⟩:=g3 rfl
  simp only[Bool.not_true,cond_false]
  simp only[kb,iX,Option.bind_some,JD _ _ hc.2.1,dt]
  cases he:aF c.Clauses i with
  | none=>exact⟨_,rfl,rfl⟩
  | some e=>
   simp only[Option.isSome_some,Bool.not_true,cond_false,dt,Option.bind_some]
   simp only[VF c s hs n2,QL (Ld h he) hs.2.1.1,Option.bind_some,MF c s names [] false hs h he]
   exact⟨_,rfl,rfl⟩
theorem tB (c:Contract)(hc:Rt c)(s:State)(hs:xI s)(i:Int)(hi:l4 i):ek c s i=some true:=by
 unfold ek
 obtain⟨r1,e1,q1⟩:=J5 c hc (l:=1048576) (by decide) (by decide)
 rw[e1,Option.bind_some]
 rcases q1 with q1 | ⟨q1,p1,s1⟩
 ·rw[decide_eq_true q1,cond_true]
 rw[decide_eq_false (by omega),cond_false]
 obtain⟨r2,e2,q2⟩:=Sc s hs (l:=r1) (by omega) (by omega)
 rw[e2,Option.bind_some]
 rcases q2 with q2 | ⟨q2,p2,s2⟩
 ·rw[decide_eq_true q2,cond_true]
 rw[decide_eq_false (by omega),cond_false]
 obtain⟨r,g1,g2⟩:=Rf c s i s1 s2
 simp only[Kz c s1,TL s s2,Option.bind_some,g1,g2,JS c s1,TY s s2,beq_self_eq_true,bne_self_eq_false,Bool.not_true,ft,cond_false]
end Go.Ln
