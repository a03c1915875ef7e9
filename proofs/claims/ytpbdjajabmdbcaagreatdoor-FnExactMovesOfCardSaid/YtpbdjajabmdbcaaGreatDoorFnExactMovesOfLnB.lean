/-
  The reading of the code, part 2.
-/
import Derived.Test.YtpbdjajabmdbcaaGreatDoorFnExactMovesOfLnA
set_option linter.unusedVariables false
set_option linter.unusedSimpArgs false
set_option linter.unusedSectionVars false
namespace Go.Ln
open Go
section
variable {w w' : World} {ρ ρ' ρ'' : bV} {rt rt' rt'' : an} {N : Nat→Nat→Prop}
def lM:V→Root
 | .usl s es=>⟨0,s,es⟩
 | .uptr e=>⟨0,(cells e).length,[e]⟩
 | _=>⟨0,0,[]⟩
def iY (id:Nat):V→V
 | .usl s es=>.hs id 0 [] s 0 es.length
 | .uptr e=>.hp id 0 [] (cells e).length 0 0
 | v=>v
theorem FB (v:V):notOwn v∨(∃s es,v=.usl s es)∨∃e,v=.uptr e:=by cases v<;>simp[notOwn]
abbrev oP:=Nat×Nat×Root
theorem Hm {c id k:Nat}{x:V}{vs:List V}(h:¬notOwn x):gP c id k (x::vs)=(iY id x::(gP c (id+1) (k+1) vs).1,(c,k,lM x)::(gP c (id+1) (k+1) vs).2):=by
 cases x<;>first | rfl | exact absurd trivial h
theorem Hl {c id k:Nat}{x:V}{vs:List V}(h:notOwn x):gP c id k (x::vs)=(x::(gP c id (k+1) vs).1,(gP c id (k+1) vs).2):=by
 cases x<;>first | rfl | exact h.elim
theorem qd {c:Nat}:∀{vs:List V} {id k:Nat},(gP c id k vs).1.length=vs.length∧
  (∀(j:Nat) (e:oP),(gP c id k vs).2[j]?=some e→∃k' x,vs[k']?=some x∧e=(c,k+k',lM x)∧¬notOwn x)∧
  (∀(k':Nat) (x:V),vs[k']?=some x→(notOwn x∧(gP c id k vs).1[k']?=some x)∨(¬notOwn x∧∃j:Nat,(gP c id k vs).2[j]?=some (c,k+k',lM x)∧(gP c id k vs).1[k']?=some (iY (id+j) x)))∧
  (∀(i j:Nat) (e e':oP),(gP c id k vs).2[i]?=some e→(gP c id k vs).2[j]?=some e'→e.2.1=e'.2.1→i=j)
 | [],id,k=>by simp[gP]
 | x::vs,id,k=>by
  by_cases hx:notOwn x
  ·rw[Hl hx]
   obtain⟨h1,h2,h3,h4⟩:=qd (c:=c) (vs:=vs) (id:=id) (k:=k+1)
   refine⟨by simp[h1],fun j e he=>?_,fun k' y hy=>?_,h4⟩
   ·obtain⟨k',y,hy,e1,e2⟩:=h2 j e he
    exact⟨k'+1,y,by simpa using hy,by rw[e1];congr 2;omega,e2⟩
   ·cases k' with
    | zero=>simp at hy;subst hy;exact .inl ⟨hx,by simp⟩
    | succ k'=>
     rcases h3 k' y (by simpa using hy) with h | ⟨h,j,hj,hj'⟩
     ·exact .inl ⟨h.1,by simpa using h.2⟩
     ·exact .inr ⟨h,j,by rw[hj];congr 3;omega,by simpa using hj'⟩
  ·rw[Hm hx]
   obtain⟨h1,h2,h3,h4⟩:=qd (c:=c) (vs:=vs) (id:=id+1) (k:=k+1)
   refine⟨by simp[h1],fun j e he=>?_,fun k' y hy=>?_,fun i j e e' he he' heq=>?_⟩
   ·cases j with
    | zero=>simp at he;subst he;exact⟨0,x,by simp,by simp,hx⟩
    | succ j=>
     obtain⟨k',y,hy,e1,e2⟩:=h2 j e (by simpa using he)
     exact⟨k'+1,y,by simpa using hy,by rw[e1];congr 2;omega,e2⟩
   ·cases k' with
    | zero=>simp at hy;subst hy;exact .inr ⟨hx,0,by simp,by simp⟩
    | succ k'=>
     rcases h3 k' y (by simpa using hy) with h | ⟨h,j,hj,hj'⟩
     ·exact .inl ⟨h.1,by simpa using h.2⟩
     ·refine .inr ⟨h,j+1,?_,?_⟩
      ·simp only[List.getElem?_cons_succ];rw[hj];congr 3;omega
      ·simp only[List.getElem?_cons_succ];rw[hj'];congr 2;omega
   ·cases i with
    | zero=>
     cases j with
     | zero=>rfl
     | succ j=>
      simp at he;subst he
      obtain⟨k',y,hy,e1,e2⟩:=h2 j e' (by simpa using he')
      subst e1
      simp at heq
      omega
    | succ i=>
     cases j with
     | zero=>
      simp at he';subst he'
      obtain⟨k',y,hy,e1,e2⟩:=h2 i e (by simpa using he)
      subst e1
      simp at heq
      omega
     | succ j=>rw[h4 i j e e' (by simpa using he) (by simpa using he') heq]
theorem O9 {id:Nat}{x:V}(h:¬notOwn x):ay (iY id x)=false:=by cases x<;>first | rfl | exact absurd trivial h
theorem Pd {id c:Nat}{v:V}:ay (kI id c v).1=ay v∧(cells (kI id c v).1).length=(cells v).length∧(kI id c v).2=(gP c id 0 (cells v)).2∧cells (kI id c v).1=(gP c id 0 (cells v)).1:=by
 by_cases ha:ay v=true
 ·cases v<;>simp[ay] at ha
  rename_i cs
  have:=(qd (c:=c) (vs:=cs) (id:=id) (k:=0)).1
  exact⟨rfl,this,rfl,rfl⟩
 ·have ha':ay v=false:=by simpa using ha
  have hc:=b9 ha'
  have e1:(kI id c v).1=(gP c id 0 [v]).1.headD .und:=by
   unfold kI
   rw[hc]
   cases v<;>first | rfl | exact absurd rfl ha
  have e2:∃y,(gP c id 0 [v]).1=[y]∧ay y=false:=by
   by_cases hn:notOwn v
   ·rw[Hl hn];exact⟨v,rfl,ha'⟩
   ·rw[Hm hn];exact⟨_,rfl,O9 hn⟩
  obtain⟨y,e2,e3⟩:=e2
  rw[e2] at e1
  simp at e1
  rw[e1]
  refine⟨by rw[e3,ha'],by rw[b9 e3,hc];rfl,by simp[kI],by rw[b9 e3,hc,e2]⟩
theorem kF:∀{vs:List V} {id c:Nat},(bU id c vs).1.length=vs.length∧
  (∀(j:Nat) (e:oP),(bU id c vs).2[j]?=some e→∃c' v k x,vs[c']?=some v∧(cells v)[k]?=some x∧e=(c+c',k,lM x)∧¬notOwn x)∧
  (∀(c':Nat) (v:V),vs[c']?=some v→∃y,(bU id c vs).1[c']?=some y∧ay y=ay v∧(cells y).length=(cells v).length∧
   ∀(k:Nat) (x:V),(cells v)[k]?=some x→(notOwn x∧(cells y)[k]?=some x)∨(¬notOwn x∧∃j:Nat,(bU id c vs).2[j]?=some (c+c',k,lM x)∧(cells y)[k]?=some (iY (id+j) x)))∧
  (∀(i j:Nat) (e e':oP),(bU id c vs).2[i]?=some e→(bU id c vs).2[j]?=some e'→e.1=e'.1→e.2.1=e'.2.1→i=j)
 | [],id,c=>by simp[bU]
 | v::vs,id,c=>by
  obtain⟨a1,a2,a3,a4⟩:=Pd (id:=id) (c:=c) (v:=v)
  obtain⟨b1,b2,b3,b4⟩:=qd (c:=c) (vs:=cells v) (id:=id) (k:=0)
  obtain⟨h1,h2,h3,h4⟩:=kF (vs:=vs) (id:=id+(kI id c v).2.length) (c:=c+1)
  simp only[bU]
  rw[←a3] at b2 b3 b4
  refine⟨by simp[h1],fun j e he=>?_,fun c' y hy=>?_,fun i j e e' he he' q1 q2=>?_⟩
  ·by_cases hj:j<(kI id c v).2.length
   ·rw[lT hj] at he
    obtain⟨k',x,hx,e1,e2⟩:=b2 j e he
    exact⟨0,v,k',x,by simp,hx,by simpa using e1,e2⟩
   ·rw[ox (by omega)] at he
    obtain⟨c',v',k,x,q1,q2,q3,q4⟩:=h2 _ e he
    exact⟨c'+1,v',k,x,by simpa using q1,q2,by rw[q3];congr 1;omega,q4⟩
  ·cases c' with
   | zero=>
    simp at hy
    subst hy
    refine⟨(kI id c v).1,by simp,a1,a2,fun k x hx=>?_⟩
    rw[a4]
    rcases b3 k x hx with h | ⟨h,j,hj,hj'⟩
    ·exact .inl h
    ·refine .inr ⟨h,j,?_,hj'⟩
     rw[lT (cZ.1 hj).1,hj]
     simp
   | succ c'=>
    obtain⟨y',e1,e2,e3,e4⟩:=h3 c' y (by simpa using hy)
    refine⟨y',by simpa using e1,e2,e3,fun k x hx=>?_⟩
    rcases e4 k x hx with h | ⟨h,j,hj,hj'⟩
    ·exact .inl h
    ·refine .inr ⟨h,(kI id c v).2.length+j,?_,by rw[hj'];congr 2;omega⟩
     rw[ox (by omega),Nat.add_sub_cancel_left,hj]
     congr 2
     omega
  ·by_cases hi:i<(kI id c v).2.length<;>by_cases hj:j<(kI id c v).2.length
   ·rw[lT hi] at he
    rw[lT hj] at he'
    exact b4 i j e e' he he' q2
   ·rw[lT hi] at he
    rw[ox (by omega)] at he'
    obtain⟨k',x,_,e1,_⟩:=b2 i e he
    obtain⟨c',v',k,x',_,_,e3,_⟩:=h2 _ e' he'
    subst e1 e3
    simp at q1
    omega
   ·rw[ox (by omega)] at he
    rw[lT hj] at he'
    obtain⟨k',x,_,e1,_⟩:=b2 j e' he'
    obtain⟨c',v',k,x',_,_,e3,_⟩:=h2 _ e he
    subst e1 e3
    simp at q1
    omega
   ·rw[ox (by omega)] at he he'
    have:=h4 _ _ e e' he he' q1 q2
    omega
end
section
variable {w w' : World} {ρ ρ' ρ'' : bV} {rt rt' rt'' : an} {N : Nat→Nat→Prop}
def ri : List oP→Nat→Nat→Option Nat
  | [],_,_=>none
  | e :: R,c,k=>if e.1=c ∧ e.2.1=k then some 0 else (ri R c k).map (· + 1)
theorem kg:∀{R:List oP} {c k j:Nat},ri R c k=some j→∃r,R[j]?=some (c,k,r)
 | [],c,k,j,h=>by simp[ri] at h
 | e::R,c,k,j,h=>by
  simp only[ri] at h
  split at h
  ·rename_i he
   cases h
   obtain⟨e1,e2,e3⟩:=e
   simp at he
   exact⟨e3,by simp[he.1,he.2]⟩
  ·simp only[aU] at h
   obtain⟨j',h',rfl⟩:=h
   obtain⟨r,hr⟩:=kg h'
   exact⟨r,by simpa using hr⟩
theorem xm:∀{R:List oP} {c k j:Nat} {r:Root},R[j]?=some (c,k,r)→∃j',ri R c k=some j'
 | [],c,k,j,r,h=>by simp at h
 | e::R,c,k,j,r,h=>by
  simp only[ri]
  split
  ·exact⟨0,rfl⟩
  ·cases j with
   | zero=>simp at h;subst h;rename_i hn;exact absurd ⟨rfl,rfl⟩ hn
   | succ j=>
    obtain⟨j',h'⟩:=xm (R:=R) (c:=c) (k:=k) (j:=j) (r:=r) (by simpa using h)
    exact⟨j'+1,by rw[h'];rfl⟩
def fJ (ρ:bV)(q id:Nat)(R:List oP):bV:=fun b=>
 match ρ b with
 | some (o,l)=>if o=q then (match l with
  | x::t=>(ri R x.1 x.2).map fun j=>(id+j,t)
  | []=>none) else some (o,l)
 | none=>none
theorem pQ {q id R b}(h:ρ b=none):fJ ρ q id R b=none:=by simp[fJ,h]
theorem mg {q id R b o l}(h:ρ b=some (o,l))(hn:o≠q):fJ ρ q id R b=some (o,l):=by simp[fJ,h,hn]
theorem mf {q id R b c k t j}(h:ρ b=some (q,(c,k)::t))(hj:ri R c k=some j):fJ ρ q id R b=some (id+j,t):=by simp[fJ,h,hj]
theorem i7 {q id R b o l}(h:fJ ρ q id R b=some (o,l)):(ρ b=some (o,l)∧o≠q)∨∃c k j,ρ b=some (q,(c,k)::l)∧ri R c k=some j∧o=id+j:=by
 unfold fJ at h
 split at h
 ·rename_i o' l' hb
  split at h
  ·rename_i hq
   subst hq
   split at h
   ·rename_i x t
    simp only[aU] at h
    obtain⟨j,hj,h⟩:=h
    cases h
    exact .inr ⟨x.1,x.2,j,hb,hj,rfl⟩
   ·cases h
  ·rename_i hq
   cases h
   exact .inl ⟨hb,hq⟩
 ·cases h
theorem jF {id o:Nat}{R:List oP}(h:¬(id≤o∧o<id+R.length)):eA rt id R o=rt o:=by unfold eA;rw[if_neg h]
theorem pd {id j:Nat}{R:List oP}(h:j<R.length):eA rt id R (id+j)=(R[j]?).map fun x=>x.2.2:=by
 unfold eA
 rw[if_pos (by omega),Nat.add_sub_cancel_left]
structure Placed (N:Nat→Nat→Prop) (w:World) (ρ:bV) (rt:an) (ρ':bV) (rt':an) (id n:Nat) (ys:List V) (p:Nat→Value):Prop where
 rok:eM w ρ' rt'
 inj:fg ρ'
 rtn:ib rt'
 keep:Keep N w ρ rt w ρ' rt'
 lab:Lab w ρ' rt' jW
 val:∀(c:Nat) (y:V),ys[c]?=some y→be w ρ' rt' b7 y (p c)∧∀Un:Nat→Prop,(∀o,id≤o→o<id+n→¬Un o)→az (cC Un rt') y
 nv:∀o r',rt' o=some r'→rt o=some r'∨(id≤o∧o<id+n)
 f0:∀b l,ρ' b=some (0,l)→ρ b=some (0,l)
theorem KX (H:eM w ρ rt)(J:fg ρ)(hr:ib rt){q:Nat}(hL:Lab w ρ rt (fun o _=>o=0∨o=q))(hq0:q≠0)(hq:rt q=none){id:Nat}{vs:List V}(hid0:0<id)(hf:∀o,id≤o→o<id+(bU id 0 vs).2.length→rt o=none)(hN:∀o nv,id≤o→o<id+(bU id 0 vs).2.length→N o nv){p:Nat→Value}(hv:∀(c:Nat) (v:V),vs[c]?=some v→be w ρ rt (fun k=>some (q,[(c,k)])) v (p c)∧nh v) :
  Placed N w ρ rt (fJ ρ q id (bU id 0 vs).2) (eA rt id (bU id 0 vs).2) id (bU id 0 vs).2.length (bU id 0 vs).1 p:=by
 obtain⟨s1,s2,s3,s4⟩:=kF (vs:=vs) (id:=id) (c:=0)
 generalize hys:(bU id 0 vs).1=ys at s1 s3
 generalize hR:(bU id 0 vs).2=R at s2 s3 s4 hf hN
 have pos:∀(j c k:Nat) (r:Root),R[j]?=some (c,k,r)→ri R c k=some j:=by
  intro j c k r h
  obtain⟨j',h'⟩:=xm h
  obtain⟨r',h''⟩:=kg h'
  rw[h',s4 j' j _ _ h'' h rfl rfl]
 have K:Keep N w ρ rt w (fJ ρ q id R) (eA rt id R):=by
  refine⟨fun b hb _=>⟨pQ hb,rfl⟩,fun o nv path hNo hl=>?_,fun b l hb=>⟨mg hb (Ne.symm hq0),rfl⟩⟩
  have ho:¬(id≤o∧o<id+R.length):=fun h=>hNo (hN o nv h.1 h.2)
  have hl':cU rt o nv path:=by simpa[cU,cG,cr,jF ho] using hl
  refine⟨hl',fun b n hb hn=>⟨mg hb ?_,hn⟩⟩
  rintro rfl
  simp[cU,cG,cr,hq] at hl'
 have roots:∀(j:Nat) (e:oP),R[j]?=some e→∃c k x v,e=(c,k,lM x)∧¬notOwn x∧nh x∧vs[c]?=some v∧(cells v)[k]?=some x∧∃u,RepV w ρ rt (some (q,[(c,k)])) x u:=by
  intro j e he
  obtain⟨c,v,k,x,h1,h2,h3,h4⟩:=s2 j e he
  rw[Nat.zero_add] at h3
  obtain⟨⟨g,_,hg⟩,hn⟩:=hv c v h1
  exact⟨c,k,x,v,h3,h4,ce hn h2,h1,h2,g k,hg k x h2⟩
 refine⟨?_,?_,?_,K,?_,?_,?_,fun b l h=>?_⟩
 rotate_right
 ·rcases i7 h with⟨h1,_⟩ | ⟨_,_,_,_,_,h3⟩
  ·exact h1
  ·omega
 ·intro o r h
  by_cases ho:¬(id≤o∧o<id+R.length)
  ·rw[jF ho] at h
   exact cO.under K (fun b l hb _=>⟨mg hb (by rintro rfl;rw[hq] at h;cases h),rfl⟩) (H o r h) (hr o r h)
  ·obtain⟨j,rfl⟩:∃j,o=id+j:=⟨o - id,by omega⟩
   rw[pd (by omega)] at h
   simp only[aU] at h
   obtain⟨e,he,rfl⟩:=h
   obtain⟨c,k,x,v,rfl,h1,h2,_,_,u,hu⟩:=roots j e he
   have hmv:∀b l,ρ b=some (q,[(c,k)]++l)→fJ ρ q id R b=some (id+j,[]++l)∧w.heap[b]?=w.heap[b]?:=fun b l hb=>⟨mf hb (pos j c k _ he),rfl⟩
   rcases FB x with h | ⟨s,es,rfl⟩ | ⟨e,rfl⟩
   ·exact absurd h h1
   ·exact cO.move K hmv (pL hu) (by simpa[lM,nh] using h2)
   ·exact cO.move K hmv (ou hu) (by simpa[lM,nh,nhs] using h2)
 ·rintro b b' ⟨o,l⟩ h h'
  rcases i7 h with⟨h1,h2⟩ | ⟨c,k,j,h1,h2,h3⟩<;>rcases i7 h' with⟨h1',h2'⟩ | ⟨c',k',j',h1',h2',h3'⟩
  ·exact J _ _ _ h1 h1'
  ·exfalso
   rcases (hL b o l h1).2 with (h | h) | ⟨r,h⟩
   ·omega
   ·exact h2 h
   ·obtain⟨r9,hr9⟩:=kg h2'
    have:=(cZ.1 hr9).1
    rw[hf o (by omega) (by omega)] at h;cases h
  ·exfalso
   rcases (hL b' o l h1').2 with (h | h) | ⟨r,h⟩
   ·omega
   ·exact h2' h
   ·obtain⟨r9,hr9⟩:=kg h2
    have:=(cZ.1 hr9).1
    rw[hf o (by omega) (by omega)] at h;cases h
  ·have:j=j':=by omega
   subst this
   obtain⟨r,hr1⟩:=kg h2
   obtain⟨r',hr2⟩:=kg h2'
   rw[hr1] at hr2
   cases hr2
   exact J _ _ _ h1 h1'
 ·intro o r h
  by_cases ho:¬(id≤o∧o<id+R.length)
  ·rw[jF ho] at h
   exact hr o r h
  ·obtain⟨j,rfl⟩:∃j,o=id+j:=⟨o - id,by omega⟩
   rw[pd (by omega)] at h
   simp only[aU] at h
   obtain⟨e,he,rfl⟩:=h
   obtain⟨c,k,x,v,rfl,h1,h2,_⟩:=roots j e he
   rcases FB x with h | ⟨s,es,rfl⟩ | ⟨e,rfl⟩
   ·exact absurd h h1
   ·simpa[lM,nh] using h2
   ·simpa[lM,nh,nhs] using h2
 ·refine⟨fun b o l h=>?_,by rw[jF (by omega)];exact hL.z,fun b l h=>?_⟩
  rotate_left
  ·rcases i7 h with⟨h1,_⟩ | ⟨_,_,_,_,_,h3⟩
   ·exact hL.f _ _ h1
   ·omega
  rcases i7 h with⟨h1,h2⟩ | ⟨c,k,j,h1,h2,h3⟩
  ·refine⟨(hL b o l h1).1,?_⟩
   rcases (hL b o l h1).2 with (h | h) | ⟨r,h⟩
   ·exact .inl h
   ·exact absurd h h2
   ·exact .inr ⟨r,by rw[jF (fun h'=>by rw[hf o h'.1 h'.2] at h;cases h)];exact h⟩
  ·obtain⟨r,hr'⟩:=kg h2
   exact⟨(hL b _ _ h1).1,.inr ⟨r,by rw[h3,pd (cZ.1 hr').1,hr'];rfl⟩⟩
 ·intro c y hy
  have hc:c<vs.length:=by rw[←s1];exact (cZ.1 hy).1
  have hvc:vs[c]?=some vs[c]:=eo hc
  obtain⟨y',e1,e2,e3,e4⟩:=s3 c _ hvc
  rw[hy] at e1
  cases e1
  obtain⟨⟨g,hp,hg⟩,hn⟩:=hv c _ hvc
  have hx:∀(k:Nat) z,(cells y)[k]?=some z→∃x,(cells vs[c])[k]?=some x:=fun k z hz=>by
   have:=(cZ.1 hz).1
   exact⟨_,eo (by omega)⟩
  have each:∀(k:Nat) z,(cells y)[k]?=some z→RepV w (fJ ρ q id R) (eA rt id R) none z (g k)∧∀Un:Nat→Prop,(∀o,id≤o→o<id+R.length→¬Un o)→az (cC Un (eA rt id R)) z:=by
   intro k z hz
   obtain⟨x,hx⟩:=hx k z hz
   have hxn:=ce hn hx
   have hxr:=hg k x hx
   rcases e4 k x hx with⟨h1,h2⟩ | ⟨h1,j,hj,h2⟩
   ·rw[hz] at h2
    cases h2
    exact⟨(hxr.any h1 (L':=none)).keep K (dA hxn),fun _ _=>dA hxn⟩
   ·rw[hz] at h2
    cases h2
    rw[Nat.zero_add] at hj
    have hjl:=(cZ.1 hj).1
    have hpos:=pos j c k _ hj
    have nn:∀Un:Nat→Prop,(∀o,id≤o→o<id+R.length→¬Un o)→¬cC Un (eA rt id R) (id+j) 0:=by
     rintro Un hUn (h | ⟨r,h,h'⟩)
     ·exact hUn _ (by omega) (by omega) h
     ·omega
    rcases FB x with h | ⟨s,es,rfl⟩ | ⟨e,rfl⟩
    ·exact absurd h h1
    ·refine⟨?_,by simpa[iY,az] using nn⟩
     obtain⟨A,cc,g2,hu,hlc,hs,hb,_⟩:=xr hxr
     rw[hu]
     refine .hs _ _ _ _ _ _ _ _ (fun _=>⟨cc,A,rfl,hlc,fun h0=>?_⟩) trivial
     obtain⟨b,arr,T,q1,q2,q3,q4,_⟩:=hb h0
     exact⟨b,arr.size,mf q1 hpos,⟨arr,T,q2,rfl⟩,by rw[q3];simp,by simpa using q4⟩
    ·refine⟨?_,by simpa[iY,az] using nn⟩
     generalize g k=u at hxr
     cases hxr with
     | uptr _ _ b arr T g2 hρ hb hc hh=>
      exact .hp _ _ _ _ _ _ _ _ (fun _=>⟨b,arr.size,mf hρ hpos,⟨arr,T,hb,rfl⟩,by simp⟩) trivial
  refine⟨⟨g,?_,fun k z hz=>(each k z hz).1⟩,?_⟩
  ·rw[hp]
   unfold fS
   rw[e2,e3]
  ·by_cases ha:ay y=true
   ·cases y<;>simp[ay] at ha
    intro Un hUn
    simp only[az]
    refine ew.2 fun z hz=>?_
    obtain⟨k,hk⟩:=List.mem_iff_getElem?.1 hz
    exact (each k z hk).2 Un hUn
   ·have ha':ay y=false:=by simpa using ha
    exact (each 0 y (by simp[b9 ha'])).2
 ·intro o r h
  by_cases ho:¬(id≤o∧o<id+R.length)
  ·rw[jF ho] at h
   exact .inl h
  ·obtain⟨j,rfl⟩:∃j,o=id+j:=⟨o - id,by omega⟩
   rw[pd (by omega)] at h
   simp only[aU] at h
   obtain⟨e,he,rfl⟩:=h
   have:=(cZ.1 he).1
   exact .inr ⟨by omega,by omega⟩
end
section
variable {w w' : World} {ρ ρ' ρ'' : bV} {rt rt' rt'' : an} {N : Nat→Nat→Prop}
def iw:an:=fun _=>none
structure Ground where
 base:Nat
 inv:World→Prop
 st:∀w w',(∀b,b<base→w'.heap[b]?=w.heap[b]?)→Wk w w'→inv w→inv w'
def Ground.ok (G:Ground)(w:World)(ρ:bV):Prop:=G.base≤w.heap.size∧(∀b,b<G.base→ρ b=none)∧G.inv w
theorem Ground.keep {G:Ground}(h:G.ok w ρ)(hf:∀b,ρ b=none→b<w.heap.size→ρ' b=none∧w'.heap[b]?=w.heap[b]?)(hw:Wk w w'):G.ok w' ρ':=
 ⟨Nat.le_trans h.1 hw.size,fun b hb=>(hf b (h.2.1 b hb) (Nat.lt_of_lt_of_le hb h.1)).1,G.st w w' (fun b hb=>(hf b (h.2.1 b hb) (Nat.lt_of_lt_of_le hb h.1)).2) hw h.2.2⟩
structure Inn (w:World) (ρ:bV):Prop where
 inj:fg ρ
 lab:∀b o l,ρ b=some (o,l)→b<w.heap.size∧(o=0∨o=1)
 f:∀b l,ρ b=some (0,l)→l=[(b,0)]
structure Aft (w:World) (ρ:bV) (w':World) (ρ':bV):Prop where
 wk:Wk w w'
 fr:∀b,ρ b=none→b<w.heap.size→ρ' b=none∧w'.heap[b]?=w.heap[b]?
 k0:∀b l,ρ b=some (0,l)→ρ' b=some (0,l)∧w'.heap[b]?=w.heap[b]?
 f0:∀b l,ρ' b=some (0,l)→ρ b=some (0,l)
 inj:fg ρ'
 lab:∀b o l,ρ' b=some (o,l)→b<w'.heap.size∧(o=0∨o=1∨o=2)
def pq (w:World)(ρ:bV)(vs:List V)(us:List Value):Prop:=
 vs.length=us.length∧∀(a:Nat) v u,vs[a]?=some v→us[a]?=some u→be w ρ iw (fun k=>some (1,[(a,k)])) v u∧nh v
def ma:V→Bool
 | .tup _=>true
 | _=>false
def IQ (w:World)(ρ:bV)(r:V)(u:Value):Prop:=
 ∃p:Nat→Value,u=(if ma r then .tuple (dT (fN r).length p) else p 0)∧∀(c:Nat) v,(fN r)[c]?=some v→be w ρ iw (fun k=>some (2,[(c,k)])) v (p c)∧nh v∧ma v=false
def qN (w:World)(ρ:bV)(w':World)(ρ':bV)(own:List Bool)(vs:List V)(us:List Value)(dG:List V):Prop:=
 ∀(a:Nat) v u x,vs[a]?=some v→us[a]?=some u→em own dG a=some x→
  ∀(g:Nat→Value),u=fS v g→∀(k:Nat) y z,(cells x)[k]?=some y→(cells v)[k]?=some z→¬notOwn y→nh y∧RepV w' ρ' iw (some (1,[(a,k)])) y (g k)∧∀b n,ρ b=some (1,[(a,k)])→kN w b n→ρ' b=some (1,[(a,k)])
def Kd (P:Program)(f:FuncId)(us:Array Value)(w:World)(K:Value→World→Prop):Prop:=
 (∃u w',(callFunc f us).run P w=.ok (.value u) w'∧K u w')∨
 ((callFunc f us).run P w=.ok (.enter f us) w∧Calls P f us w fun e w'=>∃u,e=.returned u∧K u w')
def gf (P:Program)(G:Ground)(f:FuncId)(e:Ent):Prop:=∀w ρ vs us r dG,pq w ρ vs us→Inn w ρ→G.ok w ρ→e.F vs=some (r,dG)→
 Kd P f us.toArray w fun u w'=>∃ρ',Aft w ρ w' ρ'∧IQ w' ρ' r u∧qN w ρ w' ρ' e.own vs us dG
def ee:V→Option Nat
 | .hs o _ _ _ _ _=>some o
 | .hp o _ _ _ _ _=>some o
 | _=>none
def kc:V→fY
 | .hs _ _ p _ _ _=>p
 | .hp _ _ p _ _ _=>p
 | _=>[]
theorem Fl {a : Nat} : ∀ {vs : List V} {k0 : Nat} {e : nO},e ∈ qX a k0 vs ↔ ∃ k x,vs[k]?=some x ∧ ee x=some e.1 ∧ e.2=(kc x,a,k0 + k)
  | [],k0,e=>by simp [qX]
  | v :: vs,k0,e=>by
    have ih:=@Fl a vs (k0 + 1) e
    have tail : (∃ k x,vs[k]?=some x ∧ ee x=some e.1 ∧ e.2=(kc x,a,k0 + 1 + k)) ↔ ∃ k x,(v :: vs)[k + 1]?=some x ∧ ee x=some e.1 ∧ e.2=(kc x,a,k0 + (k + 1)):=by
      constructor
      · rintro ⟨k,x,h1,h2,h3⟩
        exact ⟨k,x,by simpa using h1,h2,by rw [h3]; congr 2; omega⟩
      · rintro ⟨k,x,h1,h2,h3⟩
        exact ⟨k,x,by simpa using h1,h2,by rw [h3]; congr 2; omega⟩
    have hsplit : (∃ k x,(v :: vs)[k]?=some x ∧ ee x=some e.1 ∧ e.2=(kc x,a,k0 + k)) ↔ (ee v=some e.1 ∧ e.2=(kc v,a,k0)) ∨ ∃ k x,(v :: vs)[k + 1]?=some x ∧ ee x=some e.1 ∧ e.2=(kc x,a,k0 + (k + 1)):=by
      constructor
      · rintro ⟨k,x,h1,h2,h3⟩
        cases k with
        | zero=>simp at h1; subst h1; exact .inl ⟨h2,by simpa using h3⟩
        | succ k=>exact .inr ⟨k,x,h1,h2,h3⟩
      · rintro (⟨h1,h2⟩ | ⟨k,x,h1,h2,h3⟩)
        · exact ⟨0,v,by simp,h1,by simpa using h2⟩
        · exact ⟨k + 1,x,h1,h2,h3⟩
    rw [hsplit,← tail,← ih]
    cases v <;> simp only [qX,ee,kc,List.mem_cons] <;> first
      | (obtain ⟨e1, e2⟩ := e
         simp
         done)
      | (obtain ⟨e1, e2⟩ := e
         constructor
         · rintro (h | h)
           · cases h; exact .inl ⟨rfl,rfl⟩
           · exact .inr h
         · rintro (⟨h1,h2⟩ | h)
           · cases h1; cases h2; exact .inl rfl
           · exact .inr h)
theorem kE:∀{own:List Bool} {vs:List V} {a0:Nat} {e:nO},e∈bz a0 own vs↔∃a v k x,own[a]?=some true∧vs[a]?=some v∧(cells v)[k]?=some x∧ee x=some e.1∧e.2=(kc x,a0+a,k)
 | [],vs,a0,e=>by simp[bz]
 | b::own,[],a0,e=>by cases b<;>simp[bz]
 | true::own,v::vs,a0,e=>by
  simp only[bz,List.mem_append]
  rw[Fl,kE (own:=own)]
  constructor
  ·rintro (⟨k,x,h1,h2,h3⟩ | ⟨a,v',k,x,h1,h2,h3,h4,h5⟩)
   ·exact⟨0,v,k,x,by simp,by simp,h1,h2,by simpa using h3⟩
   ·exact⟨a+1,v',k,x,by simpa using h1,by simpa using h2,h3,h4,by rw[h5];congr 2;omega⟩
  ·rintro⟨a,v',k,x,h1,h2,h3,h4,h5⟩
   cases a with
   | zero=>simp at h2;subst h2;exact .inl ⟨k,x,h3,h4,by simpa using h5⟩
   | succ a=>exact .inr ⟨a,v',k,x,by simpa using h1,by simpa using h2,h3,h4,by rw[h5];congr 2;omega⟩
 | false::own,v::vs,a0,e=>by
  simp only[bz]
  rw[kE (own:=own)]
  constructor
  ·rintro⟨a,v',k,x,h1,h2,h3,h4,h5⟩
   exact⟨a+1,v',k,x,by simpa using h1,by simpa using h2,h3,h4,by rw[h5];congr 2;omega⟩
  ·rintro⟨a,v',k,x,h1,h2,h3,h4,h5⟩
   cases a with
   | zero=>simp at h1
   | succ a=>exact⟨a,v',k,x,by simpa using h1,by simpa using h2,h3,h4,by rw[h5];congr 2;omega⟩
theorem oa:∀{own:List Bool} {vs:List V} {o:Nat},(∃(a:Nat) (v:V),own[a]?≠some true∧vs[a]?=some v∧o∈ef v)→o∈b6 own vs
 | own,[],o,⟨a,v,h1,h2,h3⟩=>by simp at h2
 | [],v::vs,o,⟨a,v',h1,h2,h3⟩=>by
  simp only[b6,List.mem_append]
  cases a with
  | zero=>simp at h2;subst h2;exact .inl h3
  | succ a=>exact .inr (oa (own:=[]) ⟨a,v',by simp,by simpa using h2,h3⟩)
 | true::own,v::vs,o,⟨a,v',h1,h2,h3⟩=>by
  simp only[b6]
  cases a with
  | zero=>simp at h1
  | succ a=>exact oa ⟨a,v',by simpa using h1,by simpa using h2,h3⟩
 | false::own,v::vs,o,⟨a,v',h1,h2,h3⟩=>by
  simp only[b6,List.mem_append]
  cases a with
  | zero=>simp at h2;subst h2;exact .inl h3
  | succ a=>exact .inr (oa ⟨a,v',by simpa using h1,by simpa using h2,h3⟩)
theorem pG:∀{g:List nO} {o:Nat} {x:fY×Nat×Nat},ed g o=some x→(o,x)∈g
 | [],o,x,h=>by simp[ed] at h
 | (o',y)::g,o,x,h=>by
  simp only[ed] at h
  split at h
  ·rename_i he;cases h;subst he;simp
  ·exact List.mem_cons_of_mem _ (pG h)
theorem Fo:∀{g:List nO} {o:Nat} {x:fY×Nat×Nat},ol (g.map (·.1))=true→(o,x)∈g→ed g o=some x
 | [],o,x,h,hm=>by simp at hm
 | (o',y)::g,o,x,h,hm=>by
  simp only[List.map_cons,ol,Bool.and_eq_true,Bool.not_eq_true'] at h
  simp only[ed]
  rcases List.mem_cons.1 hm with hm' | hm'
  ·cases hm';simp
  ·have hne:o≠o':=by
    rintro rfl
    have h1:=h.1
    have:o∈g.map (·.1):=List.mem_map.2 ⟨(o,x),hm',rfl⟩
    simp only[List.contains_eq_mem,decide_eq_false_iff_not] at h1
    exact h1 this
   rw[if_neg hne]
   exact Fo h.2 hm'
theorem mb {g:List nO}{o:Nat}(h:o∉g.map (·.1)):ed g o=none:=by
 cases hl:ed g o with
 | none=>rfl
 | some x=>exact absurd ((List.mem_map (f:=fun x=>x.1)).2 ⟨(o,x),pG hl,rfl⟩) h
end
section
variable {w w' : World} {ρ ρ' ρ'' : bV} {rt rt' rt'' : an} {N : Nat→Nat→Prop}
theorem RepV.monoN (mv:dP→dP)(ok:dP→Prop)(hmv:∀l i k,ok l→mv (l.at i k)=(mv l).at i k)(hok:∀l i k,ok l→ok (l.at i k))(K3:∀b l,ok l→ρ b=some l→ρ' b=some (mv l)∧w'.heap[b]?=w.heap[b]?){L:Option dP}{v:V}{u:Value}(h:RepV w ρ rt L v u):(∀l,L=some l→ok l)→nh v→di v=false→RepV w' ρ' rt' (L.map mv) v u:=by
 have hms:∀{vs:List V} {i:Nat} {v:V},dR vs=false→vs[i]?=some v→di v=false:=by
  intro vs
  induction vs with
  | nil=>intro i v _ h;simp at h
  | cons x vs ih=>
   intro i v h e
   simp only[dR,Bool.or_eq_false_iff] at h
   cases i with
   | zero=>simp at e;subst e;exact h.1
   | succ i=>exact ih h.2 (by simpa using e)
 have hcl:∀{v x:V} {k:Nat},di v=false→(cells v)[k]?=some x→di x=false:=by
  intro v x k h e
  by_cases ha:ay v=true
  ·cases v<;>simp[ay] at ha
   exact hms (by simpa[di,cells] using h) e
  ·rw[b9 (by simpa using ha)] at e
   cases k<;>simp at e
   subst e
   exact h
 induction h with
 | und L=>exact fun _ _ _=>.und _
 | dead L u=>exact fun _ _ _=>.dead _ _
 | bool L b=>exact fun _ _ _=>.bool _ _
 | int L k n=>exact fun _ _ _=>.int _ _ _
 | str L s=>exact fun _ _ _=>.str _ _
 | nilp L=>exact fun _ _ _=>.nilp _
 | nilfn L=>exact fun _ _ _=>.nilfn _
 | nilif L=>exact fun _ _ _=>.nilif _
 | fn L f caps g h ih=>exact fun _ hn hi=>.fn _ _ _ g fun i v hv=>ih i v hv (by simp) (dj (by simpa[nh] using hn) hv) (hms (by simpa[di] using hi) hv)
 | iface L t v g h ih=>exact fun _ hn hi=>.iface _ _ _ g fun i x hx=>ih i x hx (by simp) (ce (by simpa[nh] using hn) hx) (hcl (by simpa[di] using hi) hx)
 | tup L vs p g hp h ih=>exact fun _ hn hi=>.tup _ _ p g hp fun c v k x hv hx=>ih c v k x hv hx (by simp) (ce (dj (by simpa[nh] using hn) hv) hx) (hcl (hms (by simpa[di] using hi) hv) hx)
 | iptr L e k b off g hb hρ hc h ih=>exact fun _ _ hi=>by simp[di] at hi
 | isl0 L nl A c hn=>exact fun _ _ _=>.isl0 _ _ _ _ hn
 | isl L es b off c s g hl h0 hρ hb hs hc h ih=>exact fun _ _ hi=>by simp[di] at hi;subst hi;simp at h0
 | usl0 l s A=>exact fun _ _ _=>.usl0 _ _ _
 | usl l s es b A c arr T g hρ hb hl hA hcap hs hc h ih=>
  intro ho hn hi
  have k:=K3 b l (ho l rfl) hρ
  exact .usl _ s es b A c arr T g k.1 (by rw[k.2];exact hb) hl hA hcap hs hc fun i e k x he hx=>by
   have:=ih i e k x he hx (fun l' h'=>by cases h';exact hok _ _ _ (ho l rfl)) (ce (dj (by simpa[nh] using hn) he) hx) (hcl (hms (by simpa[di] using hi) he) hx)
   rwa[Option.map_some,hmv _ _ _ (ho l rfl)] at this
 | uptr l e b arr T g hρ hb hc h ih=>
  intro ho hn hi
  have k:=K3 b l (ho l rfl) hρ
  exact .uptr _ e b arr T g k.1 (by rw[k.2];exact hb) hc fun k x hx=>by
   have:=ih k x hx (fun l' h'=>by cases h';exact hok _ _ _ (ho l rfl)) (ce (by simpa[nh] using hn) hx) (hcl (by simpa[di] using hi) hx)
   rwa[Option.map_some,hmv _ _ _ (ho l rfl)] at this
 | hp L o nv path s i k u h h1'=>exact fun _ hn _=>by simp[nh] at hn
 | hs L o nv path s off len u h h1'=>exact fun _ hn _=>by simp[nh] at hn
theorem PF (J:fg ρ){L:dP}{s c:Nat}{es:List V}{A:Option Addr}(h:cO w ρ rt L s es)(hlc:es.length≤c)(hcc:c≠0→∃b n,ρ b=some L∧kN w b n∧A=some ⟨b,0,none⟩∧c*s≤n):RepV w ρ rt (some L) (.usl s es) (.slice A es.length c):=by
 by_cases hc0:c=0
 ·subst hc0
  have:es=[]:=List.length_eq_zero_iff.1 (by omega)
  subst this
  exact .usl0 _ _ _
 ·obtain⟨b,n,hb,⟨arr,T,hbb,rfl⟩,rfl,hle⟩:=hcc hc0
  rcases h with rfl | ⟨b2,arr2,T2,g2,i1,i2,i3,i4,i5⟩
  ·exact .usl _ s [] b _ c arr T (fun _ _=>undef) hb hbb hlc (fun _=>rfl) hle (by simp) (by simp) (by simp)
  ·have:=J _ _ _ hb i1
   subst this
   rw[hbb] at i2
   cases i2
   exact .usl _ _ _ b _ c arr T g2 hb hbb hlc (fun _=>rfl) hle i3 i4 i5
theorem M2 (J:fg ρ){L:dP}{s b:Nat}{e:V}(h:cO w ρ rt L s [e])(hb:ρ b=some L):RepV w ρ rt (some L) (.uptr e) (.pointer (some ⟨b,0,none⟩)):=by
 rcases h with h | ⟨b2,arr2,T2,g2,i1,i2,i3,i4,i5⟩
 ·cases h
 ·have:=J _ _ _ hb i1
  subst this
  exact .uptr _ e b arr2 T2 (g2 0) hb i2 (fun k x hx=>by simpa using i4 0 e k x rfl hx) (fun k x hx=>i5 0 e k x rfl hx)
theorem Hh {cc d:V}(h:io rt cc=some d)(hc:ay cc=false):ay d=false:=by
 unfold io at h
 split at h
 ·simp only[aR] at h
  obtain⟨r,_,x,_,h⟩:=h
  split at h<;>cases h
  rfl
 ·simp only[aR] at h
  obtain⟨r,_,x,_,h⟩:=h
  split at h
  ·split at h<;>cases h
   rfl
  ·cases h
 ·split at h<;>cases h
  exact hc
theorem uR:∀{vs xs:List V},jJ rt vs=some xs→xs.length=vs.length∧∀(k:Nat) c,vs[k]?=some c→∃d,xs[k]?=some d∧io rt c=some d
 | [],xs,h=>by simp[jJ] at h;subst h;simp
 | v::vs,xs,h=>by
  simp only[jJ,aR,aU] at h
  obtain⟨x,hx,ys,hys,rfl⟩:=h
  obtain⟨l,ih⟩:=uR hys
  refine⟨by simp[l],fun k c hc=>?_⟩
  cases k with
  | zero=>simp at hc;subst hc;exact⟨x,by simp,hx⟩
  | succ k=>simpa using ih k c (by simpa using hc)
theorem vi:∀{vs xs:List V},iK rt vs=some xs→xs.length=vs.length∧∀(k:Nat) c,vs[k]?=some c→∃d,xs[k]?=some d∧gH rt c=some d
 | [],xs,h=>by simp[iK] at h;subst h;simp
 | v::vs,xs,h=>by
  simp only[iK,aR,aU] at h
  obtain⟨x,hx,ys,hys,rfl⟩:=h
  obtain⟨l,ih⟩:=vi hys
  refine⟨by simp[l],fun k c hc=>?_⟩
  cases k with
  | zero=>simp at hc;subst hc;exact⟨x,by simp,hx⟩
  | succ k=>simpa using ih k c (by simpa using hc)
theorem rX:∀{own:List Bool} {vs xs:List V},fk rt own vs=some xs→xs.length=vs.length∧∀(a:Nat) v,vs[a]?=some v→∃x,xs[a]?=some x∧((own[a]?=some true∧nZ rt v=some x)∨(own[a]?≠some true∧gX rt v=some x))
 | own,[],xs,h=>by simp[fk] at h;subst h;simp
 | own,v::vs,xs,h=>by
  have step:∀(own':List Bool) (x:V) (ys:List V),fk rt own' vs=some ys→xs=x::ys→(∀a,own[a+1]?=own'[a]?)→((own[0]?=some true∧nZ rt v=some x)∨(own[0]?≠some true∧gX rt v=some x))→
    xs.length=(v::vs).length∧∀(a:Nat) v',(v::vs)[a]?=some v'→∃x,xs[a]?=some x∧((own[a]?=some true∧nZ rt v'=some x)∨(own[a]?≠some true∧gX rt v'=some x)):=by
   intro own' x ys h1 h2 h3 h4
   subst h2
   obtain⟨l,ih⟩:=rX h1
   refine⟨by simp[l],fun a v' hv=>?_⟩
   cases a with
   | zero=>simp at hv;subst hv;exact⟨x,by simp,h4⟩
   | succ a=>
    obtain⟨y,e1,e2⟩:=ih a v' (by simpa using hv)
    refine⟨y,by simpa using e1,?_⟩
    rw[h3]
    exact e2
  match own,h,step with
  | true::bs,h,step=>
   simp only[fk,aR,aU] at h
   obtain⟨x,hx,ys,hys,rfl⟩:=h
   exact step bs x ys hys rfl (by simp) (.inl ⟨by simp,hx⟩)
  | false::bs,h,step=>
   simp only[fk,aR,aU] at h
   obtain⟨x,hx,ys,hys,rfl⟩:=h
   exact step bs x ys hys rfl (by simp) (.inr ⟨by simp,hx⟩)
  | [],h,step=>
   simp only[fk,aR,aU] at h
   obtain⟨x,hx,ys,hys,rfl⟩:=h
   exact step [] x ys hys rfl (by simp) (.inr ⟨by simp,hx⟩)
def ss:fY→fY→Option fY
 | [],l=>some l
 | x::p,y::l=>if x=y then ss p l else none
 | _::_,[]=>none
theorem pM:∀{p l t:fY},ss p l=some t↔l=p++t
 | [],l,t=>by simp[ss]
 | x::p,[],t=>by simp[ss]
 | x::p,y::l,t=>by
  simp only[ss,List.cons_append,List.cons.injEq]
  split
  ·rename_i h;subst h;rw[pM];simp
  ·rename_i h;exact⟨fun h'=>(by cases h'),fun h'=>absurd h'.1.symm h⟩
theorem Pw {p l:fY}:ss p l=none↔¬p <+: l:=by
 constructor
 ·rintro h ⟨t,ht⟩
  rw[pM.2 ht.symm] at h
  cases h
 ·intro h
  cases hs:ss p l with
  | none=>rfl
  | some t=>exact absurd ⟨t,(pM.1 hs).symm⟩ h
def d7 (ρ:bV)(g:List nO)(lent:List Nat):bV:=fun b=>
 match ρ b with
 | none=>none
 | some (o,l)=>match ed g o with
  | some (p,a,k)=>(match ss p l with
   | some t=>some (1,(a,k)::t)
   | none=>some (0,[(b,0)]))
  | none=>if lent.contains o then none else some (0,[(b,0)])
theorem qS {g lent b}(h:ρ b=none):d7 ρ g lent b=none:=by simp[d7,h]
theorem kr {g lent b o p t a k}(h:ρ b=some (o,p++t))(hg:ed g o=some (p,a,k)):d7 ρ g lent b=some (1,(a,k)::t):=by simp[d7,h,hg,pM.2 rfl]
theorem wP {g lent b o p l a k}(h:ρ b=some (o,l))(hg:ed g o=some (p,a,k))(hp:¬p <+: l):d7 ρ g lent b=some (0,[(b,0)]):=by simp[d7,h,hg,Pw.2 hp]
theorem nR {g lent b o l}(h:ρ b=some (o,l))(hg:ed g o=none)(hl:o∈lent):d7 ρ g lent b=none:=by simp[d7,h,hg,hl]
theorem sF {g lent b o l}(h:ρ b=some (o,l))(hg:ed g o=none)(hl:o∉lent):d7 ρ g lent b=some (0,[(b,0)]):=by simp[d7,h,hg,hl]
structure CallChk (own:List Bool) (args:List V):Prop where
 nd:ol ((bz 0 own args).map (·.1))=true
 z:0∉(bz 0 own args).map (·.1)
 dis:∀o,o∈b6 own args→o∉(bz 0 own args).map (·.1)
 z':0∉b6 own args
theorem X1 {own:List Bool}{args:List V}(h:(ol (0::(bz 0 own args).map (·.1))&&(b6 own args).all (fun o=>!(0::(bz 0 own args).map (·.1)).contains o))=true):CallChk own args:=by
 simp only[ol,Bool.and_eq_true,Bool.not_eq_true',List.contains_eq_mem,decide_eq_false_iff_not,List.all_eq_true,List.mem_cons,not_or] at h
 exact⟨h.1.2,h.1.1,fun o ho=>(h.2 o ho).2,fun ho=>(h.2 0 ho).1 rfl⟩
theorem l9 {own:List Bool}{args:List V}(c:CallChk own args){o a k:Nat}{p:fY}:ed (bz 0 own args) o=some (p,a,k)↔∃v x,own[a]?=some true∧args[a]?=some v∧(cells v)[k]?=some x∧ee x=some o∧p=kc x:=by
 constructor
 ·intro h
  obtain⟨a',v,k',x,h1,h2,h3,h4,h5⟩:=kE.1 (pG h)
  rw[Nat.zero_add] at h5
  cases h5
  exact⟨v,x,h1,h2,h3,h4,rfl⟩
 ·rintro⟨v,x,h1,h2,h3,h4,rfl⟩
  exact Fo c.nd (kE.2 ⟨a,v,k,x,h1,h2,h3,h4,by rw[Nat.zero_add]⟩)
theorem zp (J:fg ρ){U:Pl}(hL:Lab w ρ rt U){own:List Bool}{args:List V}(c:CallChk own args):Inn w (d7 ρ (bz 0 own args) (b6 own args)):=by
 have inv:∀b L,d7 ρ (bz 0 own args) (b6 own args) b=some L→(∃o p t a k,ρ b=some (o,p++t)∧ed (bz 0 own args) o=some (p,a,k)∧L=(1,(a,k)::t))∨(∃o l,ρ b=some (o,l)∧L=(0,[(b,0)])):=by
  intro b L h
  unfold d7 at h
  split at h
  ·cases h
  ·rename_i o l hb
   split at h
   ·rename_i p a k hg
    split at h
    ·rename_i t ht
     cases h
     exact .inl ⟨o,p,t,a,k,by rw[hb,pM.1 ht],hg,rfl⟩
    ·cases h
     exact .inr ⟨o,l,hb,rfl⟩
   ·split at h
    ·cases h
    ·cases h
     exact .inr ⟨o,l,hb,rfl⟩
 refine⟨?_,?_,?_⟩
 ·intro b b' L h h'
  rcases inv b L h with⟨o,p,l,a,k,h1,h2,rfl⟩ | ⟨o,l,h1,rfl⟩<;>rcases inv b' _ h' with⟨o',p',l',a',k',h1',h2',h3⟩ | ⟨o',l',h1',h3⟩
  ·cases h3
   obtain⟨v,x,e1,e2,e3,e4,e5⟩:=(l9 c).1 h2
   obtain⟨v',x',e1',e2',e3',e4',e5'⟩:=(l9 c).1 h2'
   rw[e2] at e2'
   cases e2'
   rw[e3] at e3'
   cases e3'
   rw[e4] at e4'
   cases e4'
   rw[←e5] at e5'
   subst e5'
   exact J _ _ _ h1 h1'
  ·cases h3
  ·cases h3
  ·cases h3;rfl
 ·intro b o l h
  rcases inv b _ h with⟨o',p',l',a,k,h1,h2,h3⟩ | ⟨o',l',h1,h3⟩
  ·cases h3;exact⟨(hL _ _ _ h1).1,.inr rfl⟩
  ·cases h3;exact⟨(hL _ _ _ h1).1,.inl rfl⟩
 ·intro b l h
  rcases inv b _ h with⟨o',p',l',a,k,h1,h2,h3⟩ | ⟨o',l',h1,h3⟩
  ·cases h3
  ·cases h3;rfl
theorem Km {U:Pl}(hL:Lab w ρ rt U){own:List Bool}{args:List V}(c:CallChk own args):Keep N w ρ rt w (d7 ρ (bz 0 own args) (b6 own args)) iw:=by
 refine⟨fun b hb _=>⟨qS hb,rfl⟩,fun o nv p _ hl=>?_,fun b l hb=>⟨?_,rfl⟩⟩
 ·simp[cU,cG,cr,iw] at hl
 ·rw[hL.f _ _ hb] at *
  exact sF hb (mb c.z) c.z'
theorem Vv (H:eM w ρ rt)(J:fg ρ)(hr:ib rt){U:Pl}(hL:Lab w ρ rt U){own:List Bool}{args xs:List V}{us:List Value}(c:CallChk own args)(hlen:args.length=us.length)(hv:∀(a:Nat) v u,args[a]?=some v→us[a]?=some u→be w ρ rt b7 v u∧az N v)(h:fk rt own args=some xs):pq w (d7 ρ (bz 0 own args) (b6 own args)) xs us:=by
 obtain⟨l,hx⟩:=rX h
 have K:=Km (N:=N) (rt:=rt) hL c
 have I:=zp J hL c
 refine⟨by omega,fun a x u hxa hua=>?_⟩
 have hal:=(cZ.1 hxa).1
 obtain⟨v,hva⟩:∃v,args[a]?=some v:=⟨_,eo (by omega)⟩
 obtain⟨x',e1,e2⟩:=hx a v hva
 rw[hxa] at e1
 cases e1
 obtain⟨⟨g,hp,hg⟩,hn⟩:=hv a v u hva hua
 have shareCell:own[a]?≠some true→∀(k:Nat) cc d,(cells v)[k]?=some cc→gH rt cc=some d→RepV w (d7 ρ (bz 0 own args) (b6 own args)) iw none d (g k)∧nh d:=by
  intro ho k cc d hc hd
  refine Lf H J hr K hd (hg k cc hc) (jl hn hc) fun b o l ho' hb=>?_
  have hin:o∈b6 own args:=oa ⟨a,v,ho,hva,?_⟩
  ·exact⟨nR hb (mb (c.dis o hin)) hin,(hL _ _ _ hb).1⟩
  ·by_cases ha:ay v=true
   ·cases v<;>simp[ay] at ha
    rename_i cs
    simp only[ef]
    have:∀{cs:List V} {k:Nat} {cc:V},cs[k]?=some cc→o∈ef cc→o∈et cs:=by
     intro cs
     induction cs with
     | nil=>intro k cc h;simp at h
     | cons y cs ih=>
      intro k cc h ho
      simp only[et,List.mem_append]
      cases k with
      | zero=>simp at h;subst h;exact .inl ho
      | succ k=>exact .inr (ih (by simpa using h) ho)
    exact this hc ho'
   ·rw[b9 (by simpa using ha)] at hc
    cases k<;>simp at hc
    subst hc
    exact ho'
 have lE:ay x=ay v→(cells x).length=(cells v).length→(∀(k:Nat) d,(cells x)[k]?=some d→RepV w (d7 ρ (bz 0 own args) (b6 own args)) iw (some (1,[(a,k)])) d (g k)∧nh d)→
   be w (d7 ρ (bz 0 own args) (b6 own args)) iw (fun k=>some (1,[(a,k)])) x u∧nh x:=by
  intro h1 h2 h3
  refine⟨⟨g,by rw[hp];unfold fS;rw[h1,h2],fun k d hd=>(h3 k d hd).1⟩,?_⟩
  by_cases ha:ay x=true
  ·cases x<;>simp[ay] at ha
   simp only[nh]
   exact dS.2 fun d hd=>by
    obtain⟨k,hk⟩:=List.mem_iff_getElem?.1 hd
    exact (h3 k d hk).2
  ·exact (h3 0 x (by rw[b9 (by simpa using ha)];rfl)).2
 have giveCell:own[a]?=some true→∀(k:Nat) cc d,(cells v)[k]?=some cc→io rt cc=some d→RepV w (d7 ρ (bz 0 own args) (b6 own args)) iw (some (1,[(a,k)])) d (g k)∧nh d:=by
  intro ho k cc d hc hd
  have hr1:=hg k cc hc
  have hn1:=jl hn hc
  have row:∀o nv r s es,ee cc=some o→cr rt o nv (kc cc)=some r→bp (kc cc) r.s r.es=some (s,es)→cO w (d7 ρ (bz 0 own args) (b6 own args)) iw (1,[(a,k)]) s es∧nhs es∧(∀b,ρ b=some (o,kc cc)→d7 ρ (bz 0 own args) (b6 own args) b=some (1,[(a,k)]))∧cU rt o nv (kc cc):=by
   intro o nv r s es h1 h2 h3
   have hlk:=(l9 c).2 ⟨v,cc,ho,hva,hc,h1,rfl⟩
   have hlook:cG rt o nv (kc cc)=some (s,es):=by simp[cG,h2,h3]
   have hnes:nhs es:=jy (hr o r (eC h2).1) h3
   exact⟨cO.move K (fun b l hb=>⟨kr hb hlk,rfl⟩) (o7 H hlook) hnes,hnes,fun b hb=>kr (t:=[]) (by simpa using hb) hlk,by simp[cU,hlook]⟩
  unfold io at hd
  split at hd
  ·rename_i o nv p s off len
   simp only[aR] at hd
   obtain⟨r,hro,⟨s2,es2⟩,hrow,hd⟩:=hd
   simp only at hd
   split at hd
   ·rename_i hcond
    cases hd
    obtain⟨rfl,rfl,rfl⟩:=hcond
    obtain⟨h1,h2,h3,hlive⟩:=row o nv r s es2 rfl hro hrow
    refine⟨?_,by simpa[nh] using h2⟩
    generalize g k=u' at hr1 ⊢
    cases hr1 with
    | hs _ _ _ _ _ _ _ _ hh _=>
     obtain⟨cc,A,rfl,hlc,hcc⟩:=hh hlive
     refine PF I.inj h1 hlc fun h0=>?_
     obtain⟨b,n,hb,hbl,rfl,hle⟩:=hcc h0
     exact⟨b,n,h3 b hb,hbl,by simp,by simpa using hle⟩
   ·cases hd
  ·rename_i o nv p s i j
   simp only[aR] at hd
   obtain⟨r,hro,⟨s2,es2⟩,hrow,hd⟩:=hd
   simp only at hd
   split at hd
   ·rename_i e
    split at hd
    ·rename_i hcond
     cases hd
     obtain⟨rfl,rfl,rfl,hes⟩:=hcond
     obtain⟨h1,h2,h3,hlive⟩:=row o nv r s [e] rfl hro hrow
     refine⟨?_,by simpa[nh,nhs] using h2⟩
     generalize g k=u' at hr1 ⊢
     cases hr1 with
     | hp _ _ _ _ _ _ _ _ hh _=>
      obtain⟨b,n,hb,hbl,rfl⟩:=hh hlive
      simpa using M2 I.inj h1 (h3 b hb)
    ·cases hd
   ·cases hd
  ·split at hd
   ·rename_i hpl
    cases hd
    exact⟨(hr1.keep K hn1).anyN,rh hpl hn1⟩
   ·cases hd
 rcases e2 with⟨ho,hgv⟩ | ⟨ho,hsh⟩
 ·by_cases ha:ay v=true
  ·cases v<;>simp[ay] at ha
   rename_i cs
   simp only[nZ,aU] at hgv
   obtain⟨ds,hds,rfl⟩:=hgv
   obtain⟨l2,hget⟩:=uR hds
   refine lE rfl l2 fun k d hd=>?_
   have hk:=(cZ.1 hd).1
   obtain⟨d',e1,e2⟩:=hget k _ (eo (show k<cs.length by rw[←l2];exact hk))
   have hd':ds[k]?=some d:=hd
   rw[hd'] at e1
   cases e1
   exact giveCell ho k _ d (eo (show k<cs.length by rw[←l2];exact hk)) e2
  ·have ha':ay v=false:=by simpa using ha
   have hg':io rt v=some x:=by cases v<;>first | exact hgv | exact absurd rfl ha
   have hh:=giveCell ho 0 v x (by rw[b9 ha'];rfl) hg'
   have hxa:ay x=false:=Hh hg' ha'
   refine lE (by rw[hxa,ha']) (by rw[b9 hxa,b9 ha'];rfl) fun k d hd=>?_
   rw[b9 hxa] at hd
   cases k<;>simp at hd
   subst hd
   exact hh
 ·by_cases ha:ay v=true
  ·cases v<;>simp[ay] at ha
   rename_i cs
   simp only[gX,aU] at hsh
   obtain⟨ds,hds,rfl⟩:=hsh
   obtain⟨l2,hget⟩:=vi hds
   refine lE rfl l2 fun k d hd=>?_
   have hk:=(cZ.1 hd).1
   obtain⟨d',e1,e2⟩:=hget k _ (eo (show k<cs.length by rw[←l2];exact hk))
   have hd':ds[k]?=some d:=hd
   rw[hd'] at e1
   cases e1
   have:=shareCell ho k _ d (eo (show k<cs.length by rw[←l2];exact hk)) e2
   exact⟨this.1.anyN,this.2⟩
  ·have ha':ay v=false:=by simpa using ha
   have hv0:(cells v)[0]?=some v:=by rw[b9 ha'];rfl
   by_cases hfn:∃f caps,v=.fn f caps
   ·obtain⟨f,caps,rfl⟩:=hfn
    simp only[gX,aU] at hsh
    obtain⟨ds,hds,rfl⟩:=hsh
    obtain⟨l2,hget⟩:=vi hds
    refine lE rfl rfl fun k d hd=>?_
    have:k=0∧d=.fn f ds:=by
     cases k<;>simp[cells] at hd
     exact⟨rfl,hd.symm⟩
    obtain⟨rfl,rfl⟩:=this
    have h0:=hg 0 _ hv0
    generalize g 0=u0 at h0 ⊢
    cases h0 with
    | fn _ _ _ g2 hg2=>
     have each:∀(i:Nat) d,ds[i]?=some d→RepV w (d7 ρ (bz 0 own args) (b6 own args)) iw none d (g2 i)∧nh d:=by
      intro i d hd
      have hk:=(cZ.1 hd).1
      have hci:caps[i]?=some (caps[i]'(by omega)):=eo _
      obtain⟨d',e1,e2⟩:=hget i _ hci
      rw[hd] at e1
      cases e1
      refine Lf H J hr K e2 (hg2 i _ hci) (gE (by simpa[az] using hn) hci) fun b o l ho' hb=>?_
      have hin:o∈b6 own args:=oa ⟨a,_,ho,hva,by
       simp only[ef]
       have:∀{cs:List V} {k:Nat} {cc:V},cs[k]?=some cc→o∈ef cc→o∈et cs:=by
        intro cs
        induction cs with
        | nil=>intro k cc h;simp at h
        | cons y cs ih=>
         intro k cc h ho
         simp only[et,List.mem_append]
         cases k with
         | zero=>simp at h;subst h;exact .inl ho
         | succ k=>exact .inr (ih (by simpa using h) ho)
       exact this hci ho'⟩
      exact⟨nR hb (mb (c.dis o hin)) hin,(hL _ _ _ hb).1⟩
     rw[←l2]
     refine⟨.fn _ _ _ g2 fun i d hd=>(each i d hd).1,?_⟩
     simp only[nh]
     refine dS.2 fun d hd=>?_
     obtain⟨k,hk⟩:=List.mem_iff_getElem?.1 hd
     exact (each k d hk).2
   ·have hs':gH rt v=some x:=by
     cases v<;>first | exact hsh | exact absurd rfl ha | exact absurd ⟨_,_,rfl⟩ hfn
    have hh:=shareCell ho 0 v x hv0 hs'
    have hxa:ay x=false:=by
     have:=hs'
     unfold gH at this
     split at this
     ·simp only[aR] at this
      obtain⟨r,_,h⟩:=this
      split at h<;>cases h
      rfl
     ·simp only[aR] at this
      obtain⟨r,_,h⟩:=this
      split at h
      ·simp only[aU] at h
       obtain⟨_,_,rfl⟩:=h
       rfl
      ·cases h
     ·cases this;rfl
     ·split at this<;>cases this
      exact ha'
    refine lE (by rw[hxa,ha']) (by rw[b9 hxa,b9 ha'];rfl) fun k d hd=>?_
    rw[b9 hxa] at hd
    cases k<;>simp at hd
    subst hd
    exact⟨hh.1.anyN,hh.2⟩
end
section
variable {w w' : World} {ρ ρ' ρ'' : bV} {rt rt' rt'' : an} {N : Nat→Nat→Prop}
def VP (own:List Bool)(args:List V)(a k:Nat):Option (Nat×fY):=
 if own[a]?=some true then (args[a]?).bind fun v=>((cells v)[k]?).bind fun x=>(ee x).map fun o=>(o,kc x) else none
theorem KJ {own:List Bool}{args:List V}(c:CallChk own args){o a k:Nat}{p:fY}:VP own args a k=some (o,p)↔ed (bz 0 own args) o=some (p,a,k):=by
 rw[l9 c]
 unfold VP
 constructor
 ·intro h
  split at h
  ·rename_i ho
   simp only[aR,aU,Prod.mk.injEq] at h
   obtain⟨v,h1,x,h2,o',h3,rfl,rfl⟩:=h
   exact⟨v,x,ho,h1,h2,h3,rfl⟩
  ·cases h
 ·rintro⟨v,x,ho,h1,h2,h3,rfl⟩
  simp[ho,h1,h2,h3]
theorem Ha {p:fY}{r r':Root}{y:V}(h:iG p r y=some r'):r'.nv=r.nv+1:=by
 unfold iG at h
 split at h
 ·unfold qR at h
  split at h
  ·split at h<;>cases h;rfl
  ·split at h<;>cases h;rfl
  ·cases h
 ·simp only[aR] at h
  obtain⟨x,_,h⟩:=h
  split at h
  ·split at h
   ·simp only[aU] at h
    obtain⟨_,_,rfl⟩:=h
    rfl
   ·cases h
  ·split at h
   ·simp only[aU] at h
    obtain⟨_,_,rfl⟩:=h
    rfl
   ·cases h
  ·cases h
theorem Fb {p:fY}{r r':Root}{y:V}(h:iG p r y=some r'):¬notOwn y:=by
 unfold iG at h
 split at h
 ·unfold qR at h
  split at h<;>first | (simp[notOwn];done) | cases h
 ·simp only[aR] at h
  obtain⟨x,_,h⟩:=h
  split at h<;>first | (simp[notOwn];done) | cases h
theorem Hj {own:List Bool}{v xv xx:V}{a k:Nat}(e1:own[a]?=some true)(e3:(cells v)[k]?=some xx)(e6:(own[a]?=some true∧nZ rt v=some xv)∨(own[a]?≠some true∧gX rt v=some xv)):∃z,(cells xv)[k]?=some z:=by
 rcases e6 with⟨_,hgv⟩ | ⟨h,_⟩
 ·by_cases ha:ay v=true
  ·cases v<;>simp[ay] at ha
   simp only[nZ,aU] at hgv
   obtain⟨ds,hds,rfl⟩:=hgv
   obtain⟨l2,hget⟩:=uR hds
   obtain⟨d,hd,_⟩:=hget k _ e3
   exact⟨d,hd⟩
  ·rw[b9 (by simpa using ha)] at e3
   cases k<;>simp at e3
   have hg2:io rt v=some xv:=by cases v<;>first | exact hgv | exact absurd rfl ha
   rw[b9 (Hh hg2 (by simpa using ha))]
   exact⟨xv,rfl⟩
 ·exact absurd e1 h
open Classical in
noncomputable def eJ (w:World)(ρ ρ':bV)(own:List Bool)(args:List V)(dead:List Nat)(rt2:an)(q:Nat):bV:=fun b=>
 match ρ' b with
 | some (0,_)=>(match ρ b with
  | some (o,l)=>if ed (bz 0 own args) o=none∨(rt2 o).isSome then some (o,l) else none
  | none=>none)
 | some (1,x::l)=>match VP own args x.1 x.2 with
  | some (o,p)=>if (rt2 o).isSome then some (o,p++l) else none
  | none=>none
 | some (2,l)=>some (q,l)
 | some _=>none
 | none=>if b<w.heap.size then (match ρ b with
  | some (o,l)=>if ed (bz 0 own args) o=none∧o∉dead then some (o,l) else none
  | none=>none) else none
section
variable {own : List Bool} {args xs : List V} {us : List Value} {dG : List V} {dead : List Nat} {rt2 : an} {q : Nat} {r : V} {u : Value}
 (H:eM w ρ rt) (J:fg ρ) (hr:ib rt) (hL:Lab w ρ rt jW) (hq:Fresh0 rt q) (c:CallChk own args)
 (af:Aft w (d7 ρ (bz 0 own args) (b6 own args)) w' ρ') (hdead:∀o,o∈dead→o∈b6 own args) (hrt2:rt2=jG rt (bz 0 own args) own dG dead)
include H J hr hL hq c af hdead hrt2
theorem uJ {b a k o:Nat}{l p}(h:ρ' b=some (1,(a,k)::l))(hg:ed (bz 0 own args) o=some (p,a,k))(ho:(rt2 o).isSome=true):eJ w ρ ρ' own args dead rt2 q b=some (o,p++l):=by
 simp[eJ,h,(KJ c).2 hg,ho]
theorem Vp {b:Nat}{l}(h:ρ' b=some (2,l)):eJ w ρ ρ' own args dead rt2 q b=some (q,l):=by simp[eJ,h]
theorem wO {b o:Nat}{l}(h:ρ b=some (o,l))(hg:ed (bz 0 own args) o=none)(ho:o∉dead):eJ w ρ ρ' own args dead rt2 q b=some (o,l)∧w'.heap[b]?=w.heap[b]?:=by
 have hlt:=(hL b o l h).1
 by_cases hl:o∈b6 own args
 ·have h1:=af.fr b (nR h hg hl) hlt
  exact⟨by simp[eJ,h1.1,hlt,h,hg,ho],h1.2⟩
 ·have h1:=af.k0 b _ (sF h hg hl)
  exact⟨by simp[eJ,h1.1,h,hg],h1.2⟩
theorem Hd {b o a k:Nat}{l p}(h:ρ b=some (o,l))(hg:ed (bz 0 own args) o=some (p,a,k))(hp:¬p <+: l)(ho:(rt2 o).isSome=true):eJ w ρ ρ' own args dead rt2 q b=some (o,l)∧w'.heap[b]?=w.heap[b]?:=by
 have h1:=af.k0 b _ (wP h hg hp)
 exact⟨by simp[eJ,h1.1,h,ho],h1.2⟩
theorem oT {b o:Nat}{l}(h:eJ w ρ ρ' own args dead rt2 q b=some (o,l)):(∃p t a k,l=p++t∧ρ' b=some (1,(a,k)::t)∧ed (bz 0 own args) o=some (p,a,k)∧(rt2 o).isSome=true)∨(o=q∧ρ' b=some (2,l))∨
  (ρ b=some (o,l)∧((ed (bz 0 own args) o=none∧o∉dead)∨∃p a k,ed (bz 0 own args) o=some (p,a,k)∧¬p <+: l∧(rt2 o).isSome=true)):=by
 unfold eJ at h
 split at h
 ·rename_i l' hb
  right;right
  have h1:=af.f0 b l' hb
  split at h
  ·rename_i o1 l1 hb1
   split at h
   ·rename_i hor
    cases h
    refine⟨hb1,?_⟩
    cases hg:ed (bz 0 own args) o with
    | none=>
     refine .inl ⟨rfl,fun hd=>?_⟩
     rw[nR hb1 hg (hdead o hd)] at h1
     cases h1
    | some x=>
     obtain⟨p,a,k⟩:=x
     refine .inr ⟨p,a,k,rfl,?_,hor.resolve_left (by rw[hg];simp)⟩
     rintro⟨t,rfl⟩
     rw[kr hb1 hg] at h1
     cases h1
   ·cases h
  ·cases h
 ·rename_i x l' hb
  split at h
  ·rename_i o' p' hi
   split at h
   ·rename_i hs
    cases h
    exact .inl ⟨p',l',x.1,x.2,rfl,hb,(KJ c).1 hi,hs⟩
   ·cases h
  ·cases h
 ·rename_i l' hb
  cases h
  exact .inr (.inl ⟨rfl,hb⟩)
 ·cases h
 ·split at h
  ·split at h
   ·rename_i hb
    split at h
    ·rename_i hc
     cases h
     exact .inr (.inr ⟨hb,.inl hc⟩)
    ·cases h
   ·cases h
  ·cases h
theorem Sr (hd:∀o,o∈b6 own args→o∈dead){b:Nat}(h:ρ' b=none):eJ w ρ ρ' own args dead rt2 q b=none:=by
 cases hb:eJ w ρ ρ' own args dead rt2 q b with
 | none=>rfl
 | some L=>
  obtain⟨o,l⟩:=L
  exfalso
  rcases oT H J hr hL hq c af hdead hrt2 hb with⟨p,t,a,k,_,h1,_⟩ | ⟨_,h1⟩ | ⟨h1,⟨h2,h3⟩ | ⟨p,a,k,h2,h3,_⟩⟩
  ·rw[h] at h1;cases h1
  ·rw[h] at h1;cases h1
  ·have:=(af.k0 b _ (sF h1 h2 (fun hl=>h3 (hd o hl)))).1
   rw[h] at this
   cases this
  ·have:=(af.k0 b _ (wP h1 h2 h3)).1
   rw[h] at this
   cases this
theorem BR {o:Nat}(h:rt o=none):rt2 o=none:=by
 rw[hrt2]
 unfold jG
 split
 ·simp[h]
 ·split
  ·rfl
  ·exact h
theorem vg {o:Nat}{r':Root}(h:rt2 o=some r')(hg:ed (bz 0 own args) o=none):rt o=some r'∧o∉dead:=by
 rw[hrt2] at h
 unfold jG at h
 rw[hg] at h
 simp only at h
 split at h
 ·cases h
 ·rename_i hd
  exact⟨h,by simpa using hd⟩
theorem BQ {o a k:Nat}{p:fY}{r':Root}(h:rt2 o=some r')(hg:ed (bz 0 own args) o=some (p,a,k)):∃r x y,rt o=some r∧em own dG a=some x∧(cells x)[k]?=some y∧iG p r y=some r':=by
 rw[hrt2] at h
 unfold jG at h
 rw[hg] at h
 simp only[aR] at h
 obtain⟨r,h1,y,⟨x,h2,h3⟩,h4⟩:=h
 exact⟨r,x,y,h1,h2,h3,h4⟩
theorem Kk:fg (eJ w ρ ρ' own args dead rt2 q):=by
 have hq2:rt2 q=none:=BR H J hr hL hq c af hdead hrt2 (hq.at')
 have hqρ:∀b l,ρ b≠some (q,l):=by
  intro b l h
  rcases (hL _ _ _ h).2 with h | ⟨r,h⟩
  ·have:=hq.p;simp only[jW] at h;omega
  ·rw[hq.at'] at h;cases h
 rintro b b' ⟨o,l⟩ h h'
 rcases oT H J hr hL hq c af hdead hrt2 h with⟨p,t,a,k,h0,h1,h2,h3⟩ | ⟨h1,h2⟩ | ⟨h1,h2⟩<;>rcases oT H J hr hL hq c af hdead hrt2 h' with⟨p',t',a',k',h0',h1',h2',h3'⟩ | ⟨h1',h2'⟩ | ⟨h1',h2'⟩
 ·rw[h2] at h2'
  cases h2'
  rw[h0] at h0'
  have:=List.append_cancel_left h0'
  subst this
  exact af.inj _ _ _ h1 h1'
 ·subst h1'
  rw[hq2] at h3
  cases h3
 ·rcases h2' with⟨h2',_⟩ | ⟨p',a',k',h2',h3',_⟩
  ·rw[h2] at h2';cases h2'
  ·rw[h2] at h2'
   cases h2'
   exact absurd ⟨t,h0.symm⟩ h3'
 ·subst h1
  rw[hq2] at h3'
  cases h3'
 ·exact af.inj _ _ _ h2 h2'
 ·subst h1
  exact absurd h1' (hqρ _ _)
 ·rcases h2 with⟨h2,_⟩ | ⟨p,a,k,h2,h3,_⟩
  ·rw[h2] at h2';cases h2'
  ·rw[h2] at h2'
   cases h2'
   exact absurd ⟨t',h0'.symm⟩ h3
 ·subst h1'
  exact absurd h1 (hqρ _ _)
 ·exact J _ _ _ h1 h1'
theorem WZ {o0:Nat}{p0:List (Nat×Nat)}{L:dP}{v:V}{z:Value}(h:RepV w' ρ' iw (some (o0,p0)) v z)(hn:nh v)(hd:di v=true→∀o,o∈b6 own args→o∈dead)(hmv:∀b l,ρ' b=some (o0,p0++l)→eJ w ρ ρ' own args dead rt2 q b=some (L.1,L.2++l)):RepV w' (eJ w ρ ρ' own args dead rt2 q) rt2 (some L) v z:=by
 have e:∀l:List (Nat×Nat),(p0++l).drop p0.length=l:=fun l=>by simp
 by_cases hi:di v=true
 ·have:=h.mono0 (New:=fun _ _=>True) (w':=w') (ρ':=eJ w ρ ρ' own args dead rt2 q) (rt':=rt2) ⟨fun b hb _=>⟨Sr H J hr hL hq c af hdead hrt2 (hd hi) hb,rfl⟩,fun o nv p hN _=>absurd trivial hN⟩
   (fun l=>(L.1,L.2++l.2.drop p0.length)) (fun l=>l.1=o0∧p0 <+: l.2)
   (fun l i k hl=>by
    obtain⟨_,t,ht⟩:=hl
    simp[dP.at,←ht])
   (fun l i k hl=>⟨hl.1,hl.2.trans (by simp[dP.at])⟩)
   (fun b l hl hb=>by
    obtain⟨l1,l2⟩:=l
    obtain⟨rfl,t,rfl⟩:=hl
    exact⟨by simpa using hmv b t hb,rfl⟩)
   (fun l hl=>by cases hl;exact⟨rfl,List.prefix_refl _⟩) (dA hn)
  simpa using this
 ·have:=h.monoN (w':=w') (ρ':=eJ w ρ ρ' own args dead rt2 q) (rt':=rt2)
   (fun l=>(L.1,L.2++l.2.drop p0.length)) (fun l=>l.1=o0∧p0 <+: l.2)
   (fun l i k hl=>by
    obtain⟨_,t,ht⟩:=hl
    simp[dP.at,←ht])
   (fun l i k hl=>⟨hl.1,hl.2.trans (by simp[dP.at])⟩)
   (fun b l hl hb=>by
    obtain⟨l1,l2⟩:=l
    obtain⟨rfl,t,rfl⟩:=hl
    exact⟨by simpa using hmv b t hb,rfl⟩)
   (fun l hl=>by cases hl;exact⟨rfl,List.prefix_refl _⟩) hn (by simpa using hi)
  simpa using this
theorem Hc {Un:Nat→Prop}(hret:∀o r',rt2 o=some r'→True)(hlen:args.length=us.length)(hxs:fk rt own args=some xs)(hargs:pq w (d7 ρ (bz 0 own args) (b6 own args)) xs us)(hout:qN w (d7 ρ (bz 0 own args) (b6 own args)) w' ρ' own xs us dG){id:Nat} :
  Keep (cC Un rt) w ρ rt w' (eJ w ρ ρ' own args dead rt2 q) rt2:=by
 refine⟨fun b hb hl=>?_,fun o nv p hN hl=>?_,fun b l hb=>?_⟩
 ·have h1:=af.fr b (qS hb) hl
  exact⟨by simp[eJ,h1.1,hl,hb],h1.2⟩
 ·obtain⟨r',hr2,hpv⟩:∃r',rt2 o=some r'∧((p=[]∨r'.nv=nv)∧(bp p r'.s r'.es).isSome=true):=by
   unfold cU cG at hl
   cases hv:cr rt2 o nv p with
   | none=>simp[hv] at hl
   | some r'=>
    obtain⟨h1,h2⟩:=eC hv
    simp only[hv,cm] at hl
    exact⟨r',h1,h2,hl⟩
  cases hg:ed (bz 0 own args) o with
  | none=>
   obtain⟨h1,h2⟩:=vg H J hr hL hq c af hdead hrt2 hr2 hg
   refine⟨?_,fun b n hb hn=>⟨(wO H J hr hL hq c af hdead hrt2 hb hg h2).1,af.wk.blk b n hn⟩⟩
   unfold cU cG cr
   have:(p.isEmpty||r'.nv==nv)=true:=by
    rcases hpv.1 with h | h<;>simp[h]
   simp[h1,this,hpv.2]
  | some x=>
   obtain⟨pp,a,k⟩:=x
   obtain⟨r1,x,y,h1,h2,h3,h4⟩:=BQ H J hr hL hq c af hdead hrt2 hr2 hg
   have hnv:nv≤r1.nv:=Nat.le_of_not_lt fun hlt=>hN (.inr ⟨r1,h1,hlt⟩)
   have hnv':r'.nv=r1.nv+1:=Ha h4
   have hp:p=[]:=by
    rcases hpv.1 with h | h
    ·exact h
    ·omega
   subst hp
   refine⟨by simp[cU,cG,cr,h1,bp],fun b n hb hn=>⟨?_,af.wk.blk b n hn⟩⟩
   by_cases hpp:pp=[]
   case neg=>
    exact (Hd H J hr hL hq c af hdead hrt2 hb hg (by simpa using hpp) (by rw[hr2];rfl)).1
   subst hpp
   obtain⟨v,xx,e1,e2,e3,e4,_⟩:=(l9 c).1 hg
   obtain⟨ll,hx⟩:=rX hxs
   obtain⟨xv,e5,e6⟩:=hx a v e2
   have hua:∃u,us[a]?=some u:=⟨_,eo (by have:=(cZ.1 e2).1;omega)⟩
   obtain⟨u,hua⟩:=hua
   obtain⟨⟨g,hp,hg'⟩,hnn⟩:=hargs.2 a xv u e5 hua
   have hyo:¬notOwn y:=Fb h4
   obtain⟨z,hz⟩:=Hj e1 e3 e6
   obtain⟨q1,q2,q3⟩:=hout a xv u x e5 hua h2 g hp k y z h3 hz hyo
   have:=uJ H J hr hL hq c af hdead hrt2 (q3 b n (kr (t:=[]) (by simpa using hb) hg) hn) hg (by rw[hr2];rfl)
   simpa using this
 ·have h0:ed (bz 0 own args) 0=none:=mb c.z
  exact wO H J hr hL hq c af hdead hrt2 hb h0 fun hd=>c.z' (hdead 0 hd)
end
end
section
variable {w w' : World} {ρ ρ' ρ'' : bV} {rt rt' rt'' : an} {N : Nat→Nat→Prop}
theorem pi:∀{vs:List V} {i:Nat} {v:V},dR vs=false→vs[i]?=some v→di v=false
 | [],i,v,_,h=>by simp at h
 | x::vs,i,v,h,e=>by
  simp only[dR,Bool.or_eq_false_iff] at h
  cases i with
  | zero=>simp at e;subst e;exact h.1
  | succ i=>exact pi h.2 (by simpa using e)
theorem zy {v x:V}{k:Nat}(h:di v=false)(e:(cells v)[k]?=some x):di x=false:=by
 by_cases ha:ay v=true
 ·cases v<;>simp[ay] at ha
  exact pi (by simpa[di,cells] using h) e
 ·rw[b9 (by simpa using ha)] at e
  cases k<;>simp at e
  subst e
  exact h
theorem xj:∀{own:List Bool} {dG:List V} {a:Nat} {x:V},em own dG a=some x→∃i:Nat,dG[i]?=some x
 | [],dG,a,x,h=>by simp[em] at h
 | true::bs,[],a,x,h=>by cases a<;>simp[em] at h
 | true::bs,y::ys,0,x,h=>by simp[em] at h;exact⟨0,by simp[h]⟩
 | true::bs,y::ys,a+1,x,h=>by
  simp only[em] at h
  obtain⟨i,hi⟩:=xj h
  exact⟨i+1,by simpa using hi⟩
 | false::bs,dG,0,x,h=>by cases dG<;>simp[em] at h
 | false::bs,dG,a+1,x,h=>by
  have:em bs dG a=some x:=by cases dG<;>simpa[em] using h
  exact xj this
section
variable {own : List Bool} {args xs : List V} {us : List Value} {dG : List V} {dead : List Nat} {rt2 : an} {q : Nat} {r : V} {u : Value}
 (H:eM w ρ rt) (J:fg ρ) (hr:ib rt) (hL:Lab w ρ rt jW) (hq:Fresh0 rt q) (c:CallChk own args)
 (af:Aft w (d7 ρ (bz 0 own args) (b6 own args)) w' ρ') (hdead:∀o,o∈dead→o∈b6 own args) (hrt2:rt2=jG rt (bz 0 own args) own dG dead)
include H J hr hL hq c af hdead hrt2
theorem Hb (hlen:args.length=us.length)(hxs:fk rt own args=some xs)(hargs:pq w (d7 ρ (bz 0 own args) (b6 own args)) xs us)(hout:qN w (d7 ρ (bz 0 own args) (b6 own args)) w' ρ' own xs us dG){o a k:Nat}{p:fY}{r':Root}(hr2:rt2 o=some r')(hg:ed (bz 0 own args) o=some (p,a,k)) :
  ∃r1 x y z,rt o=some r1∧em own dG a=some x∧(cells x)[k]?=some y∧iG p r1 y=some r'∧¬notOwn y∧nh y∧RepV w' ρ' iw (some (1,[(a,k)])) y z∧
   ∀b n,d7 ρ (bz 0 own args) (b6 own args) b=some (1,[(a,k)])→kN w b n→ρ' b=some (1,[(a,k)]):=by
 obtain⟨r1,x,y,h1,h2,h3,h4⟩:=BQ H J hr hL hq c af hdead hrt2 hr2 hg
 obtain⟨v,xx,e1,e2,e3,e4,_⟩:=(l9 c).1 hg
 obtain⟨ll,hx⟩:=rX hxs
 obtain⟨xv,e5,e6⟩:=hx a v e2
 obtain⟨u,hua⟩:∃u,us[a]?=some u:=⟨_,eo (by have:=(cZ.1 e2).1;omega)⟩
 obtain⟨⟨g,hp,hg'⟩,hnn⟩:=hargs.2 a xv u e5 hua
 have hyo:¬notOwn y:=Fb h4
 obtain⟨z,hz⟩:=Hj e1 e3 e6
 obtain⟨q1,q2,q3⟩:=hout a xv u x e5 hua h2 g hp k y z h3 hz hyo
 exact⟨r1,x,y,g k,h1,h2,h3,h4,hyo,q1,q2,q3⟩
theorem Vq (hlen:args.length=us.length)(hxs:fk rt own args=some xs)(hargs:pq w (d7 ρ (bz 0 own args) (b6 own args)) xs us)(hout:qN w (d7 ρ (bz 0 own args) (b6 own args)) w' ρ' own xs us dG)(him:dR dG=true→∀o,o∈b6 own args→o∈dead) :
  eM w' (eJ w ρ ρ' own args dead rt2 q) rt2∧ib rt2∧Lab w' (eJ w ρ ρ' own args dead rt2 q) rt2 (fun o _=>o=0∨o=q):=by
 have K:=Hc H J hr hL hq c af hdead hrt2 (Un:=fun _=>False) (fun _ _ _=>trivial) hlen hxs hargs hout (id:=q)
 have BJ:=Kk H J hr hL hq c af hdead hrt2
 refine⟨fun o r' h=>?_,fun o r' h=>?_,?_⟩
 ·cases hg:ed (bz 0 own args) o with
  | none=>
   obtain⟨h1,h2⟩:=vg H J hr hL hq c af hdead hrt2 h hg
   exact cO.under K (fun b l hb _=>wO H J hr hL hq c af hdead hrt2 hb hg h2) (H o r' h1) (hr o r' h1)
  | some x=>
   obtain⟨p,a,k⟩:=x
   obtain⟨r1,x,y,z,h1,h2,h3,h4,h5,h6,h7,h8⟩:=Hb H J hr hL hq c af hdead hrt2 hlen hxs hargs hout h hg
   have hsm:(rt2 o).isSome=true:=by rw[h];rfl
   have hcar:=WZ H J hr hL hq c af hdead hrt2 (L:=(o,p)) h7 h6 (fun hi=>him (by
    cases hb:dR dG with
    | true=>rfl
    | false=>
     obtain⟨i,hi'⟩:=xj h2
     rw[zy (pi hb hi') h3] at hi
     cases hi)) (fun b l hb=>uJ H J hr hL hq c af hdead hrt2 hb hg hsm)
   have deep:∀{s1:Nat} {old new es':List V},bp p r1.s r1.es=some (s1,old)→setRow new p r1.es=some es'→new.length=old.length→cO w' (eJ w ρ ρ' own args dead rt2 q) rt2 (o,p) s1 new→cO w' (eJ w ρ ρ' own args dead rt2 q) rt2 (o,[]) r1.s es':=by
    intro s1 old new es' q1 q2 q3 q4
    refine pK (p0:=[]) K BJ q3 (H o r1 h1) (hr o r1 h1) q1 q2 (fun b l hb _ hl=>?_) (fun b arr T hb hh=>?_) (by simpa using q4)
    ·exact Hd H J hr hL hq c af hdead hrt2 hb hg (by simpa using hl) hsm
    ·have hb':ρ b=some (o,p++[]):=by simpa using hb
     have hk:=h8 b arr.size (kr hb' hg) ⟨arr,T,hh,rfl⟩
     have:=uJ H J hr hL hq c af hdead hrt2 hk hg hsm
     obtain⟨arr',T',q5,q6⟩:=af.wk.blk b arr.size ⟨arr,T,hh,rfl⟩
     exact⟨by simpa using this,arr',T',q5,q6⟩
   unfold iG at h4
   split at h4
   ·unfold qR at h4
    split at h4
    ·split at h4<;>cases h4
     exact pL hcar
    ·rename_i e
     split at h4
     ·rename_i hc
      cases h4
      have:=ou hcar
      rw[hc] at this
      exact this
     ·cases h4
    ·cases h4
   ·simp only[aR] at h4
    obtain⟨⟨s1,old⟩,q1,h4⟩:=h4
    simp only at h4
    split at h4
    ·split at h4
     ·rename_i hc
      simp only[aU] at h4
      obtain⟨es',q2,rfl⟩:=h4
      obtain⟨rfl,hc2⟩:=hc
      exact deep q1 q2 hc2 (pL hcar)
     ·cases h4
    ·rename_i e
     split at h4
     ·rename_i hc
      simp only[aU] at h4
      obtain⟨es',q2,rfl⟩:=h4
      have:=ou hcar
      rw[hc.1] at this
      exact deep q1 q2 (by simp[hc.2]) this
     ·cases h4
    ·cases h4
 ·cases hg:ed (bz 0 own args) o with
  | none=>exact hr o r' (vg H J hr hL hq c af hdead hrt2 h hg).1
  | some x=>
   obtain⟨p,a,k⟩:=x
   obtain⟨r1,x,y,z,h1,h2,h3,h4,h5,h6,h7,h8⟩:=Hb H J hr hL hq c af hdead hrt2 hlen hxs hargs hout h hg
   unfold iG at h4
   split at h4
   ·unfold qR at h4
    split at h4
    ·split at h4<;>cases h4
     simpa[nh] using h6
    ·split at h4<;>cases h4
     simpa[nh,nhs] using h6
    ·cases h4
   ·simp only[aR] at h4
    obtain⟨⟨s1,old⟩,q1,h4⟩:=h4
    simp only at h4
    split at h4
    ·split at h4
     ·simp only[aU] at h4
      obtain⟨es',q2,rfl⟩:=h4
      exact nB (by simpa[nh] using h6) (hr o r1 h1) q2
     ·cases h4
    ·split at h4
     ·simp only[aU] at h4
      obtain⟨es',q2,rfl⟩:=h4
      exact nB (by simpa[nh,nhs] using h6) (hr o r1 h1) q2
     ·cases h4
    ·cases h4
 ·refine⟨fun b o l h=>?_,BR H J hr hL hq c af hdead hrt2 hL.z,fun b l h=>?_⟩
  ·rcases oT H J hr hL hq c af hdead hrt2 h with⟨p,t,a,k,h0,h1,h2,h3⟩ | ⟨h1,h2⟩ | ⟨h1,h2⟩
   ·exact⟨(af.lab _ _ _ h1).1,.inr (Option.isSome_iff_exists.1 h3)⟩
   ·exact⟨(af.lab _ _ _ h2).1,.inl (.inr h1)⟩
   ·refine⟨Nat.lt_of_lt_of_le (hL _ _ _ h1).1 af.wk.size,?_⟩
    rcases h2 with⟨h2,h3⟩ | ⟨p,a,k,h2,h3,h4⟩
    ·rcases (hL _ _ _ h1).2 with h | ⟨r,h⟩
     ·exact .inl (.inl h)
     ·refine .inr ⟨r,?_⟩
      rw[hrt2]
      unfold jG
      rw[h2]
      simp[h3,h]
    ·exact .inr (Option.isSome_iff_exists.1 h4)
  ·rcases oT H J hr hL hq c af hdead hrt2 h with⟨p,t,a,k,h0,h1,h2,h3⟩ | ⟨h1,h2⟩ | ⟨h1,h2⟩
   ·rw[mb c.z] at h2;cases h2
   ·have:=hq.p;omega
   ·exact hL.f _ _ h1
end
theorem Kd.mono {P:Program}{f:FuncId}{us:Array Value}{K K':Value→World→Prop}(h:Kd P f us w K)(hk:∀u w',K u w'→K' u w'):Kd P f us w K':=by
 rcases h with⟨u,w',h1,h2⟩ | ⟨h1,h2⟩
 ·exact .inl ⟨u,w',h1,hk _ _ h2⟩
 ·exact .inr ⟨h1,h2.mono fun e w' ⟨u,he,h⟩=>⟨u,he,hk _ _ h⟩⟩
theorem Wf {vs:List V}{p:Nat→Value}(h:∀(c:Nat) v,vs[c]?=some v→be w ρ rt b7 v (p c)):RepV w ρ rt none (.tup vs) (.tuple (dT vs.length p)):=by
 have:∀c:Nat,∃g:Nat→Value,∀v,vs[c]?=some v→p c=fS v g∧∀k x,(cells v)[k]?=some x→RepV w ρ rt none x (g k):=fun c=>by
  cases hv:vs[c]? with
  | none=>exact⟨fun _=>undef,fun v h=>by cases h⟩
  | some v=>
   obtain⟨g,h1,h2⟩:=h c v hv
   exact⟨g,fun v' h'=>by cases h';exact⟨h1,h2⟩⟩
 obtain⟨g,hg⟩:=Classical.skolem.1 this
 exact .tup _ vs p g (fun c v hv=>(hg c v hv).1) fun c v k x hv hx=>(hg c v hv).2 k x hx
theorem aao {P:Program}{E:Env}{G:Ground}(hG:∀f e,E.fn f=some e→gf P G f e)(H:eM w ρ rt)(J:fg ρ)(hr:ib rt)(hL:Lab w ρ rt jW){Un:Nat→Prop}{id:Nat}(hi:Fresh Un rt id)(hgr:G.ok w ρ){f:FuncId}{args:List V}{us:List Value}{v:V}(hlen:args.length=us.length)(hv:∀(a:Nat) v u,args[a]?=some v→us[a]?=some u→be w ρ rt b7 v u∧az (cC Un rt) v)(h:mH E rt id f args=some (v,rt')):Kd P f us.toArray w (fun u w'=>qM Un w ρ rt id v rt' u w'):=by
 simp only[mH,aR] at h
 obtain⟨e,he,h⟩:=h
 split at h
 ·rename_i hchk
  have c:=X1 hchk
  simp only[aR] at h
  obtain⟨xs,hxs,⟨r,dG⟩,hF,h⟩:=h
  simp only at h
  split at h
  ·rename_i hroom
   cases h
   have hargs:=Vv (N:=cC Un rt) H J hr hL c hlen hv hxs
   have hinn:=zp J hL c
   refine (hG f e he w _ xs us r dG hargs hinn ⟨hgr.1,fun b hb=>qS (hgr.2.1 b hb),hgr.2.2⟩ hF).mono ?_
   rintro u w' ⟨ρ',af,⟨p,hu,hp⟩,hout⟩
   generalize hdd:(if (di r||dR dG)=true then b6 e.own args else [])=dead at hroom ⊢
   have hdead:∀o,o∈dead→o∈b6 e.own args:=fun o ho=>by
    rw[←hdd] at ho
    split at ho
    ·exact ho
    ·cases ho
   have himm:(di r||dR dG)=true→∀o,o∈b6 e.own args→o∈dead:=fun hi o ho=>by
    rw[←hdd,if_pos hi];exact ho
   generalize hrt2:jG rt (bz 0 e.own args) e.own dG dead=rt2 at hroom ⊢
   have hrt2':=hrt2.symm
   obtain⟨b1,b2,b3⟩:=Vq H J hr hL hi.one c af hdead hrt2' hlen hxs hargs hout (fun hb=>himm (by simp[hb]))
   have bk:=Hc H J hr hL hi.one c af hdead hrt2' (Un:=Un) (fun _ _ _=>trivial) hlen hxs hargs hout (id:=id)
   have bj:=Kk H J hr hL hi.one c af hdead hrt2'
   have hf2:Fresh Un rt2 id:=⟨fun o ho=>BR H J hr hL hi.one c af hdead hrt2' (hi.f o ho),hi.u,hi.p⟩
   have hcell:∀(cc:Nat) (v:V),(fN r)[cc]?=some v→di r=false→di v=false:=by
    intro cc v hv hn
    by_cases ht:ma r=true
    ·cases r<;>simp[ma] at ht
     exact pi (by simpa[di,fN] using hn) hv
    ·have hcr:fN r=[r]:=by cases r<;>first | rfl | exact absurd rfl ht
     rw[hcr] at hv
     cases cc with
     | zero=>simp at hv;subst hv;exact hn
     | succ cc=>simp at hv
   have pl:=KX (N:=cC Un rt) b1 bj b2 b3 (Nat.ne_of_gt hi.p) hf2.at hi.p (fun o h1 h2=>hf2.f o (hi.u o h1 (by omega))) (fun o nv h1 h2=>.inl (hi.u o h1 (by omega))) (vs:=fN r) (p:=p) (fun cc v hv=>by
    obtain⟨⟨g,h1,h2⟩,h3,h4⟩:=hp cc v hv
    refine⟨⟨g,h1,fun k x hx=>?_⟩,h3⟩
    refine WZ H J hr hL hi.one c af hdead hrt2' (L:=(id,[(cc,k)])) (h2 k x hx) (ce h3 hx) (fun him=>himm ?_) (fun b l hb=>Vp H J hr hL hi.one c af hdead hrt2' hb)
    cases hri:di r with
    | true=>simp
    | false=>rw[zy (hcell cc v hv hri) hx] at him;cases him)
   refine⟨_,⟨pl.rok,pl.inj,pl.rtn,bk.trans pl.keep af.wk.size,pl.lab,af.wk,?_,fun b l h=>?_⟩,?_,?_⟩
   rotate_left
   ·rcases oT H J hr hL hi.one c af hdead hrt2' (pl.f0 b l h) with⟨p,t,a,k,h0,h1,h2,h3⟩ | ⟨h1,h2⟩ | ⟨h1,h2⟩
    ·rw[mb c.z] at h2;cases h2
    ·have:=hi.p;omega
    ·exact h1
   rotate_right
   ·intro o r' h
    rcases pl.nv o r' h with h1 | ⟨h1,h2⟩
    ·left
     cases hg:ed (bz 0 e.own args) o with
     | none=>exact⟨r',(vg H J hr hL hi.one c af hdead hrt2' h1 hg).1,Nat.le_refl _⟩
     | some x=>
      obtain⟨p,a,k⟩:=x
      obtain⟨r1,x,y,q1,q2,q3,q4⟩:=BQ H J hr hL hi.one c af hdead hrt2' h1 hg
      exact⟨r1,q1,by rw[Ha q4];exact Nat.le_succ _⟩
    ·exact .inr ⟨h1,by omega⟩
   ·have ll:=(kF (vs:=fN r) (id:=id) (c:=0)).1
    rw[hu]
    by_cases ht:ma r=true
    ·cases r<;>simp[ma] at ht
     rename_i vs
     simp only[ma,if_true,vf]
     have:=Wf fun c y hy=>(pl.val c y hy).1
     rw[ll] at this
     exact be.mk1 rfl this
    ·have hcr:fN r=[r]:=by cases r<;>first | rfl | exact absurd rfl ht
     have hys:∃y,(bU id 0 (fN r)).1=[y]:=by
      rw[hcr] at ll ⊢
      match hh:(bU id 0 [r]).1,ll with
      | [y],_=>exact⟨y,rfl⟩
     obtain⟨y,hy⟩:=hys
     have hret:vf r (bU id 0 (fN r)).1=y:=by
      rw[hy]
      cases r<;>first | rfl | exact absurd rfl ht
     simp only[ht]
     rw[hret]
     exact (pl.val 0 y (by rw[hy];rfl)).1
   ·have mono:∀{y:V},(∀Un':Nat→Prop,(∀o,id≤o→o<id+(bU id 0 (fN r)).2.length→¬Un' o)→az (cC Un' (eA rt2 id (bU id 0 (fN r)).2)) y)→az (cC (uV Un id) (eA rt2 id (bU id 0 (fN r)).2)) y:=fun hn=>
     hn _ fun o h1 h2 h=>h.2 ⟨h1,by omega⟩
    by_cases ht:ma r=true
    ·cases r<;>simp[ma] at ht
     rename_i vs
     simp only[vf,az]
     refine ew.2 fun y hy=>?_
     obtain⟨c,hc⟩:=List.mem_iff_getElem?.1 hy
     exact mono (pl.val c y hc).2
    ·have ll:=(kF (vs:=fN r) (id:=id) (c:=0)).1
     have hcr:fN r=[r]:=by cases r<;>first | rfl | exact absurd rfl ht
     have hys:∃y,(bU id 0 (fN r)).1=[y]:=by
      rw[hcr] at ll ⊢
      match hh:(bU id 0 [r]).1,ll with
      | [y],_=>exact⟨y,rfl⟩
     obtain⟨y,hy⟩:=hys
     have hret:vf r (bU id 0 (fN r)).1=y:=by
      rw[hy]
      cases r<;>first | rfl | exact absurd rfl ht
     rw[hret]
     exact mono (pl.val 0 y (by rw[hy];rfl)).2
  ·cases h
 ·cases h
end
section
variable {w w' : World} {ρ ρ' ρ'' : bV} {rt rt' rt'' : an} {N : Nat→Nat→Prop}
def IV (P:Program)(o:Oper)(a:Act)(w:World)(K:Value→World→Prop):Prop:=
 (∃u w',(execOp a.eval o).run P w=.ok (.value u) w'∧K u w')∨(∃w',(execOp a.eval o).run P w=.ok .skip w'∧K undef w')∨
 (∃f us,(execOp a.eval o).run P w=.ok (.enter f us) w∧Calls P f us w fun e w'=>∃u,e=.returned u∧K u w')
theorem IV.wp {P:Program}{o:Oper}{a:Act}{K:Value→World→Prop}{next:Act→World→Prop}{Q:Exit→Act→World→Prop}(h:IV P o a w K)(hn:∀u w',K u w'→next (a.put o.dst u) w'):o.wp P a w next Q:=by
 unfold Oper.wp
 rcases h with⟨u,w',h1,h2⟩ | ⟨w',h1,h2⟩ | ⟨f,us,h1,h2⟩
 ·rw[h1];exact hn u w' h2
 ·rw[h1];exact hn undef w' h2
 ·rw[h1]
  exact h2.mono fun e w' ⟨u,he,hk⟩=>by subst he;exact hn u w' hk
theorem XV {x:Array Operand}{st:St}{d:V}(h:ic st x.toList=some [d]):∃p,x=#[p]∧ev st p=some d:=by
 obtain⟨l⟩:=x
 simp only at h
 match l,h with
 | [p],h=>
  simp only[ic,aR,aU] at h
  obtain⟨v,hv,_,h1,h2⟩:=h
  cases h1
  cases h2
  exact⟨p,rfl,hv⟩
 | [],h=>simp[ic] at h
 | _::_::_,h=>
  simp only[ic,aR,aU] at h
  obtain⟨v,hv,_,⟨_,_,_,_,h1⟩,h2⟩:=h
  subst h1
  cases h2
theorem XW {x:Array Operand}{st:St}{d e:V}(h:ic st x.toList=some [d,e]):∃p q,x=#[p,q]∧ev st p=some d∧ev st q=some e:=by
 obtain⟨l⟩:=x
 simp only at h
 match l,h with
 | [p,q],h=>
  simp only[ic,aR,aU] at h
  obtain⟨v,hv,_,⟨v2,hv2,_,h3,h1⟩,h2⟩:=h
  cases h3
  subst h1
  cases h2
  exact⟨p,q,rfl,hv,hv2⟩
 | [],h=>simp[ic] at h
 | [_],h=>simp[ic,aR] at h
 | _::_::_::_,h=>
  simp only[ic,aR,aU] at h
  obtain⟨v,hv,_,⟨v2,hv2,_,⟨_,_,_,_,h3⟩,h1⟩,h2⟩:=h
  subst h3
  subst h1
  cases h2
section
variable {P : Program} {E : Env} {G : Ground} (hG : ∀ f e,E.fn f=some e→gf P G f e) (A : Agree P E) {st : St} {a : Act} {o : Oper} (H : eM w ρ st.rt) (J : fg ρ) (T : jE w ρ st.rt st.tm a.tmps) (hr : ib st.rt) (hL : Lab w ρ st.rt jW) {Un : Nat→Prop} {id : Nat} (hm : zm (cC Un st.rt) st.tm) (hi : Fresh Un st.rt id) (hgr : G.ok w ρ)
include hG A H J T hr hL hm hi hgr
theorem aaq {o:Nat}{r:Root}(h:st.rt o=some r):¬cC Un st.rt o r.nv:=by
 rintro (h1 | ⟨r',h1,h2⟩)
 ·rw[hi.f o h1] at h;cases h
 ·rw[h] at h1;cases h1;omega
theorem abM {v : V}{rt' : an}(h : bu E id st o.op=some (v,rt')) : IV P o a w (fun u w'=>qM Un w ρ st.rt id v rt' u w'):=by
  by_cases hp : ui o.op=true
  · obtain ⟨rfl,⟨u,h1,h2⟩,h3⟩:=aas A H J T hm hr (fun o r h=>aaq hG A H J T hr hL hm hi hgr h) hp h
    refine .inl ⟨u,w,h1,ρ,⟨H,J,hr,Keep.refl,hL,Wk.refl,fun o r h=>.inl ⟨r,h,Nat.le_refl _⟩,fun _ _ h=>h⟩,h2,?_⟩
    refine eQ (fun o nv h=>?_) h3
    rcases h with h | h
    · exact .inl h.1
    · exact .inr h
  · have mk : (∃ u w',(execOp a.eval o).run P w=.ok (.value u) w' ∧ qM Un w ρ st.rt id v rt' u w')→IV P o a w (fun u w'=>qM Un w ρ st.rt id v rt' u w'):=fun ⟨u,w',h1,h2⟩=>.inl ⟨u,w',h1,h2⟩
    cases hop : o.op with
    | alloc t=>exact mk (Yj A H J T hr hL hm hi hop h)
    | box t x=>exact mk (abu A H J T hr hL hm hi hop h)
    | buildSlice t n ps=>exact mk (KQ A H J T hr hL hm hi hop h)
    | makeSlice t x y=>exact mk (MR A H J T hr hL hm hi hop h)
    | store t p x =>
      rw [show o.op=.store t p x from hop] at h
      have h' : bu E id st o.op=some (v,rt'):=by rw [hop]; exact h
      obtain ⟨w',h1,h2⟩:=Yl A H J T hr hL hm hi hop h'
      exact .inr (.inl ⟨w',h1,h2⟩)
    | call c =>
      obtain ⟨cal,args,ts⟩:=c
      rw [hop] at h
      simp only [bu,lA,aR] at h
      obtain ⟨vs,hvs,h⟩:=h
      cases cal with
      | builtin b =>
        cases b <;> simp only [fb] at h <;> first | (cases h; done) | skip
        all_goals first
          | (rw [hop] at hp; simp [ui] at hp; done)
          | skip
        all_goals first
          | (match vs, hvs, h with
             | [d,x],hvs,h =>
               simp only [fb,aR] at h
               obtain ⟨t,ht,t1,ht1,h⟩:=h
               split at h
               · rename_i hs1
                 obtain ⟨p,q,rfl,h1,h2⟩:=XW hvs
                 exact mk (VZ A H J T hr hL hm hi hop ht ht1 hs1 h1 h2 h)
               · cases h
             | [],_,h=>simp [fb] at h
             | [_],_,h=>simp [fb] at h
             | _ :: _ :: _ :: _,_,h=>simp [fb] at h)
          | (match vs, hvs, h with
             | [x],hvs,h =>
               simp only [fb,aR,aU,Prod.mk.injEq] at h
               obtain ⟨t,ht,r1,hr1,rfl,rfl⟩:=h
               obtain ⟨p,rfl,h1⟩:=XV hvs
               exact mk (Yk A H J T hr hL hm hi hop ht h1 hr1)
             | [],_,h=>simp [fb] at h
             | _ :: _ :: _,_,h=>simp [fb] at h)
      | value f =>
        simp only [aR] at h
        obtain ⟨fv,hf,h⟩:=h
        split at h
        · rename_i fid caps
          obtain ⟨hl,hrep⟩:=tU T hvs
          have hfs:=be.one rfl (cT T hf)
          have hfn:=gO hm hf
          have hcaps : ∃ g : Nat→Value,a.eval f=.func (.func fid) #[] (dT caps.length g) ∧ ∀ (i : Nat) v,caps[i]?=some v→RepV w ρ st.rt none v (g i):=by
            generalize a.eval f=uf at hfs
            cases hfs with
            | fn _ _ _ g hg=>exact ⟨g,rfl,hg⟩
          obtain ⟨g,hef,hg⟩:=hcaps
          have hus : ((args.toList.map a.eval) ++ (List.range caps.length).map g).toArray=#[] ++ args.map a.eval ++ dT caps.length g:=by
            apply Array.ext'
            simp [dT]
          have hl' : vs.length=args.size:=by simpa using hl
          have hn:=aao (us:=(args.toList.map a.eval) ++ (List.range caps.length).map g) hG H J hr hL hi hgr (by simp [hl]) (fun i v u hv hu=>by
            by_cases hlt : i < vs.length
            · rw [lT hlt] at hv
              rw [lT (by simp; omega),List.getElem?_map] at hu
              obtain ⟨x,hx,rfl⟩:=aU.1 hu
              exact ⟨hrep i v x hv hx,gE (Kv hm hvs) hv⟩
            · rw [ox (by omega)] at hv
              rw [ox (by simp; omega),List.getElem?_map] at hu
              obtain ⟨j,hj,rfl⟩:=aU.1 hu
              have hj' : j=i - vs.length:=by
                have h1:=(cZ.1 hj).1
                simp at h1
                rw [List.getElem?_range (by simpa using h1)] at hj
                simp [hl] at hj ⊢
                omega
              subst hj'
              have h1:=hg _ v hv
              exact ⟨be.mk1 (by cases v <;> first | rfl | (cases h1)) h1,gE (by simpa [az] using hfn) hv⟩) h
          have hrun : (execOp a.eval o).run P w=(callFunc fid ((args.toList.map a.eval) ++ (List.range caps.length).map g).toArray).run P w:=by
            rw [hus]
            simp [execOp,hop,resolve,Deferred.ofValue,hef,invoke]
          rcases hn with ⟨u,w',h1,h2⟩ | ⟨h1,h2⟩
          · exact .inl ⟨u,w',by rw [hrun]; exact h1,h2⟩
          · exact .inr (.inr ⟨fid,_,by rw [hrun]; exact h1,h2⟩)
        · cases h
      | invoke x m=>simp at h
    | _=>rw [hop] at hp h; first | (simp [ui] at hp; done) | (simp [bu] at h; done)
end
end
section
structure RelU (Un:Nat→Prop) (G:Ground) (m:Nat) (w0:World) (ρ0:bV) (w:World) (ρ:bV) (st:St) (a:Act):Prop where
 tm:jE w ρ st.rt st.tm a.tmps
 rok:eM w ρ st.rt
 inj:fg ρ
 rtn:ib st.rt
 lab:Lab w ρ st.rt jW
 fresh:∀o,Un o→st.rt o=none
 up:∀o,Un o→0<o
 tmn:zm (cC Un st.rt) st.tm
 wk:Wk w0 w
 fr:∀b,ρ0 b=none→b<w0.heap.size→ρ b=none∧w.heap[b]?=w0.heap[b]?
 k0:∀b l,ρ0 b=some (0,l)→ρ b=some (0,l)∧w.heap[b]?=w0.heap[b]?
 f0:∀b l,ρ b=some (0,l)→ρ0 b=some (0,l)
 df:a.defers=[]
 gr:G.ok w ρ
 am:∀i b n,0<i→ρ0 b=some (i,[])→kN w0 b n→(st.rt i).isSome=true→ρ b=some (i,[])∧kN w b n
 le:∀b i l,ρ0 b=some (i,l)→i≤m
 nl:∀i,i≤m→¬Un i
def eN (nx:Nat):Nat→Prop:=fun o=>nx≤o
abbrev gK (G:Ground)(m:Nat)(w0:World)(ρ0:bV)(w:World)(ρ:bV)(st:St)(a:Act):Prop:=RelU (eN st.nx) G m w0 ρ0 w ρ st a
variable {G : Ground} {m : Nat} {w0 w : World} {ρ0 ρ : bV} {st st' : St} {a : Act}
theorem Wm {ops:Array Oper}(T:jE w ρ st.rt st.tm a.tmps){j:Nat}{b:Option Bool}(h:rq ops st j=some b):yielded ops a.tmps j=b:=by
 unfold rq at h
 unfold yielded
 cases hd:(ops[j]?).bind (·.dst) with
 | none=>simp[hd] at h
 | some d=>
  simp only[hd,cm] at h ⊢
  cases ht:st.tm[d]? with
  | none=>simp[ht] at h
  | some v=>
   have hl:=(cZ.1 ht).1
   obtain⟨u,hu⟩:∃u,a.tmps[d]?=some u:=⟨_,Array.getElem?_eq_getElem (by rw[←T.1];exact hl)⟩
   have hs:=T.2 d v u ht hu
   rw[hu]
   simp only[ht] at h
   split at h
   ·rename_i x hx
    cases h
    cases hx
    rw[lP hs]
   ·rename_i hx
    cases h
    cases hx
    have:=be.one rfl hs
    cases this
    rfl
   ·cases h
theorem N5 {ops:Array Oper}(T:jE w ρ st.rt st.tm a.tmps){o:Oper}{b:Bool}(h:ix ops st o=some b):Region.wanted o (yielded ops a.tmps)=b:=by
 unfold ix at h
 unfold Region.wanted
 split at h
 ·cases h;simp_all
 ·rename_i j want hg
  simp only[aU] at h
  obtain⟨x,hx,rfl⟩:=h
  rw[hg]
  simp only
  rw[Wm T hx]
theorem Pk {Un:Nat→Prop}{rt rt':an}{id:Nat}(hi:∀o,id≤o→o<id+cE→Un o)(h:∀o r',rt' o=some r'→(∃r,rt o=some r∧r.nv≤r'.nv)∨(id≤o∧o<id+cE)):∀o nv,cC (uV Un id) rt' o nv→cC Un rt o nv:=by
 rintro o nv (h1 | ⟨r,h1,h2⟩)
 ·exact .inl h1.1
 ·rcases h o r h1 with⟨r0,h3,h4⟩ | ⟨h3,h4⟩
  ·exact .inr ⟨r0,h3,by omega⟩
  ·exact .inl (hi o h3 h4)
theorem vd {tm:List V}{d:Option Nat}{v x:V}{i:Nat}(h:(kH tm d v)[i]?=some x):(d=some i∧x=v∧i<tm.length)∨(d≠some i∧tm[i]?=some x):=by
 cases d with
 | none=>exact .inr ⟨by simp,h⟩
 | some d=>
  simp only[kH] at h
  by_cases hd:d=i
  ·subst hd
   have hl:=(cZ.1 h).1
   rw[List.length_set] at hl
   rw[List.getElem?_set_self hl] at h
   cases h
   exact .inl ⟨rfl,rfl,hl⟩
  ·rw[List.getElem?_set_ne hd] at h
   exact .inr ⟨by simpa using hd,h⟩
theorem NV {a:Act}{d:Option Nat}{v u:Value}{i:Nat}(h:(a.put d v).tmps[i]?=some u):(d=some i∧u=v)∨(d≠some i∧a.tmps[i]?=some u):=by
 cases d with
 | none=>exact .inr ⟨by simp,h⟩
 | some d=>
  simp only[Act.put] at h
  by_cases hd:d=i
  ·subst hd
   have hl:=(nE.1 h).1
   simp at hl
   simp[hl] at h
   exact .inl ⟨rfl,h.symm⟩
  ·rw[Array.getElem?_setIfInBounds_ne hd] at h
   exact .inr ⟨by simpa using hd,h⟩
theorem K5 {a:Act}{d:Option Nat}{v:Value}:(a.put d v).tmps.size=a.tmps.size:=by cases d<;>simp[Act.put]
theorem ve {tm:List V}{d:Option Nat}{v:V}:(kH tm d v).length=tm.length:=by cases d<;>simp[kH]
theorem FH {a:Act}{d:Option Nat}{v:Value}:(a.put d v).defers=a.defers:=by cases d<;>simp[Act.put]
theorem RelU.out {Un:Nat→Prop}(R:RelU Un G m w0 ρ0 w ρ st a){id nx:Nat}(hi:∀o,id≤o→o<id+cE→Un o){v:V}{rt':an}{u:Value}{w':World}(h:qM Un w ρ st.rt id v rt' u w'){d:Option Nat}:∃ρ',RelU (uV Un id) G m w0 ρ0 w' ρ' { tm:=kH st.tm d v,rt:=rt',nx:=nx } (a.put d u):=by
 obtain⟨ρ',e,hv,hn⟩:=h
 have mono:=Pk hi e.nv
 refine⟨ρ',⟨?_,e.rok,e.inj,e.rtn,e.lab,?_,fun o h=>R.up o h.1,?_,R.wk.trans e.wk,?_,?_,?_,?_,Ground.keep R.gr e.keep.k1 e.wk,?_,R.le,fun i h1 h2=>R.nl i h1 h2.1⟩⟩
 ·refine⟨by rw[ve,K5];exact R.tm.1,fun i x y hx hy=>?_⟩
  rcases vd hx with⟨h1,rfl,_⟩ | ⟨h1,h2⟩<;>rcases NV hy with⟨h3,rfl⟩ | ⟨h3,h4⟩
  ·exact hv
  ·exact absurd h1 h3
  ·exact absurd h3 h1
  ·exact (R.tm.2 i x y h2 h4).keep e.keep (R.tmn i x h2)
 ·intro o ho
  cases hr:rt' o with
  | none=>exact hr
  | some r'=>
   rcases e.nv o r' hr with⟨r,h1,_⟩ | h1
   ·rw[R.fresh o ho.1] at h1;cases h1
   ·exact absurd h1 ho.2
 ·intro i x hx
  rcases vd hx with⟨h1,rfl,_⟩ | ⟨h1,h2⟩
  ·exact hn
  ·exact eQ mono (R.tmn i x h2)
 ·intro b hb hl
  have h1:=R.fr b hb hl
  have h2:=e.keep.k1 b h1.1 (Nat.lt_of_lt_of_le hl R.wk.size)
  exact⟨h2.1,h2.2.trans h1.2⟩
 ·intro b l hb
  have h1:=R.k0 b l hb
  have h2:=e.keep.k0 b l h1.1
  exact⟨h2.1,h2.2.trans h1.2⟩
 ·exact fun b l hb=>R.f0 b l (e.f0 b l hb)
 ·rw[FH];exact R.df
 ·intro i b n hi0 hb hn hs
  simp only at hs
  have hlt:¬Un i:=R.nl i (R.le b i [] hb)
  obtain⟨r',hr'⟩:=Option.isSome_iff_exists.1 hs
  obtain⟨r,hr,hnv⟩:∃r,st.rt i=some r∧r.nv≤r'.nv:=by
   rcases e.nv i r' hr' with h | ⟨h1,h2⟩
   ·exact h
   ·exact absurd (hi i h1 h2) hlt
  have hl:cU rt' i r.nv []:=by simp[cU,cG,cr,hr',bp]
  have:=(e.keep.k2 i r.nv [] (by
   rintro (h | ⟨r2,h,h2⟩)
   ·exact hlt h
   ·rw[hr] at h;cases h;omega) hl).2
  have h0:=R.am i b n hi0 hb hn (by rw[hr];rfl)
  exact this b n h0.1 h0.2
theorem RelU.mono {Un Un' : Nat→Prop}(R : RelU Un G m w0 ρ0 w ρ st a)(h : ∀ o,Un' o→Un o){nx : Nat} : RelU Un' G m w0 ρ0 w ρ { st with nx:=nx } a :=
  { R with
    fresh:=fun o ho=>R.fresh o (h o ho)
    up:=fun o ho=>R.up o (h o ho)
    tmn:=fun i v hv=>eQ (fun o nv h1=>by
      rcases h1 with h1 | h1
      · exact .inl (h o h1)
      · exact .inr h1) (R.tmn i v hv)
    nl:=fun i h1 h2=>R.nl i h1 (h i h2) }
theorem RelU.skip {Un : Nat→Prop}(R : RelU Un G m w0 ρ0 w ρ st a){d : Option Nat} : RelU Un G m w0 ρ0 w ρ { st with tm:=kH st.tm d .und } (a.put d undef) :=
  { R with
    tm:=⟨by rw [ve,K5]; exact R.tm.1,fun i x y hx hy=>by
      rcases vd hx with ⟨h1,rfl,_⟩ | ⟨h1,h2⟩ <;> rcases NV hy with ⟨h3,rfl⟩ | ⟨h3,h4⟩
      · exact be.mk1 rfl (.und _)
      · exact absurd h1 h3
      · exact absurd h3 h1
      · exact R.tm.2 i x y h2 h4⟩
    tmn:=fun i x hx=>by
      rcases vd hx with ⟨h1,rfl,_⟩ | ⟨h1,h2⟩
      · simp [az]
      · exact R.tmn i x h2
    df:=by rw [FH]; exact R.df }
theorem RelU.step {Un:Nat→Prop}{P:Program}{E:Env}(hG:∀f e,E.fn f=some e→gf P G f e)(A:Agree P E)(R:RelU Un G m w0 ρ0 w ρ st a){id nx:Nat}(hp:0<id)(hi:∀o,id≤o→o<id+cE→Un o){ops:Array Oper}{i:Nat}{rest:List Nat}{Q:Exit→Act→World→Prop}(h:fT E ops id st i=some st')(hn:∀w' ρ' a',RelU (uV Un id) G m w0 ρ0 w' ρ' { st' with nx:=nx } a'→wpOps P ops Q rest a' w'):wpOps P ops Q (i::rest) a w:=by
 unfold fT at h
 simp only[wpOps]
 cases ho:ops[i]? with
 | none=>
  simp only[ho] at h ⊢
  cases h
  exact hn w ρ a (R.mono fun o h=>h.1)
 | some o=>
  simp only[ho,aR] at h ⊢
  obtain⟨b,hb,h⟩:=h
  rw[N5 R.tm hb]
  cases b with
  | true=>
   simp only[if_true,aU] at h
   obtain⟨⟨v,rt'⟩,hv,h⟩:=h
   cases h
   simp only[if_true]
   refine .inl ((abM hG A R.rok R.inj R.tm R.rtn R.lab R.tmn ⟨R.fresh,hi,hp⟩ R.gr hv).wp fun u w' hout=>?_)
   obtain⟨ρ',R'⟩:=R.out hi hout (d:=o.dst) (nx:=nx)
   exact hn w' ρ' _ R'
  | false=>
   simp only[Bool.false_eq_true,if_false] at h ⊢
   cases h
   exact hn w ρ _ ((R.skip (d:=o.dst)).mono fun o h=>h.1)
theorem gK.step {P:Program}{E:Env}(hG:∀f e,E.fn f=some e→gf P G f e)(A:Agree P E)(R:gK G m w0 ρ0 w ρ st a){ops:Array Oper}{i:Nat}{rest:List Nat}{Q:Exit→Act→World→Prop}(h:fT E ops st.nx st i=some st')(hn:∀w' ρ' a',gK G m w0 ρ0 w' ρ' { st' with nx:=st.nx+cE } a'→wpOps P ops Q rest a' w'):wpOps P ops Q (i::rest) a w:=
 RelU.step hG A R (nx:=st.nx+cE) (R.up st.nx (Nat.le_refl _)) (fun o h _=>h) h fun w' ρ' a' R'=>hn w' ρ' a' (by
  have:=R'.mono (Un':=eN (st.nx+cE)) (nx:=st.nx+cE) fun o ho=>⟨by unfold eN at *;omega,by unfold eN at ho;omega⟩
  exact this)
end
section
variable {G : Ground} {m : Nat} {w0 w : World} {ρ0 ρ : bV} {st st' : St} {a : Act}
theorem gK.nilq {P:Program}{E:Env}(A:Agree P E)(R:gK G m w0 ρ0 w ρ st a){ops:Array Oper}{i:Nat}{rest:List Nat}{Q:Exit→Act→World→Prop}{o:Oper}{op:BinOp}{t t' e:TypeId}{x y:Operand}{nl:Bool}(ho:ops[i]?=some o)(hg:ix ops st o=some true)(hop:o.op=.binOp op t x y t')(he:op=.eql∨op=.neq)(hx:ev st x=some (.isl nl []))(hy:ev st y=some (.isl true []))(hd:E.desc t=some (.slice e))(hn:∀b w' ρ' a',gK G m w0 ρ0 w' ρ' { st with tm:=kH st.tm o.dst (.bool b),nx:=st.nx+cE } a'→wpOps P ops Q rest a' w'):wpOps P ops Q (i::rest) a w:=by
 simp only[wpOps,ho]
 rw[N5 R.tm hg]
 simp only[if_true]
 have hu:=A.desc hd
 obtain⟨A1,l,c,h1,_⟩:=jV (be.one rfl (cT R.tm hx))
 obtain⟨A2,l2,c2,h2,h3⟩:=jV (be.one rfl (cT R.tm hy))
 have h4:A2=none:=by have:=h3 (.inl rfl);cases A2<;>simp at this ⊢
 have hrun:(Op.equal t (.slice A1 l c) (.slice A2 l2 c2)).run P w=.ok A1.isNone w:=vh fun n=>sn hu h4 rfl
 have hgd:(eqGuard op t x y (.slice A1 l c) (.slice A2 l2 c2)).run P w=.ok () w:=by unfold eqGuard;split<;>simp
 have act:∃b,(execOp a.eval o).run P w=.ok (.value (.bool b)) w:=by
  rcases he with rfl | rfl
  ·exact⟨A1.isNone,by simp[execOp,hop,h1,h2,hgd,binOp,hrun]⟩
  ·exact⟨!A1.isNone,by simp[execOp,hop,h1,h2,hgd,binOp,hrun]⟩
 obtain⟨b,hb⟩:=act
 have hout:qM (eN st.nx) w ρ st.rt st.nx (.bool b) st.rt (.bool b) w:=
  ⟨ρ,⟨R.rok,R.inj,R.rtn,Keep.refl,R.lab,Wk.refl,fun o r h=>.inl ⟨r,h,Nat.le_refl _⟩,fun _ _ h=>h⟩,jf _,by simp[az]⟩
 refine .inl (IV.wp (K:=fun u w'=>u=.bool b∧w'=w) (.inl ⟨.bool b,w,hb,rfl,rfl⟩) fun u w' hh=>?_)
 obtain⟨rfl,rfl⟩:=hh
 obtain⟨ρ',R'⟩:=R.out (fun o h _=>h) hout (d:=o.dst) (nx:=st.nx+cE)
 have:=R'.mono (Un':=eN (st.nx+cE)) (nx:=st.nx+cE) fun o ho=>⟨by unfold eN at *;omega,by unfold eN at ho;omega⟩
 exact hn b _ ρ' _ this
def BX (ρ:bV)(rt2:an):bV:=fun b=>match ρ b with
 | some (o,l)=>if o=0∨(rt2 o).isSome=true then some (o,l) else none
 | none=>none
theorem jz {rt2:an}{b:Nat}{L:dP}:BX ρ rt2 b=some L↔ρ b=some L∧(L.1=0∨(rt2 L.1).isSome=true):=by
 unfold BX
 cases h:ρ b with
 | none=>simp
 | some x=>
  obtain⟨o,l⟩:=x
  simp only
  by_cases hc:o=0∨(rt2 o).isSome=true
  ·rw[if_pos hc]
   simp only[Option.some.injEq]
   constructor
   ·rintro rfl;exact⟨rfl,hc⟩
   ·exact fun h=>h.1
  ·rw[if_neg hc]
   simp only[reduceCtorEq,Option.some.injEq,false_iff,not_and]
   rintro rfl
   exact hc
theorem gK.sub {tm2 : List V}{rt2 : an}(ht : tm2.length=st.tm.length)(ht2 : ∀ (i : Nat) v,tm2[i]?=some v→st.tm[i]?=some v ∨ v=.dead)(hs : ∀ o r,rt2 o=some r→st.rt o=some r)(R : gK G m w0 ρ0 w ρ st a) : ∃ ρ',gK G m w0 ρ0 w ρ' { st with tm:=tm2,rt:=rt2 } a:=by
  have hz : rt2 0=none:=by
    cases h : rt2 0 with
    | none=>rfl
    | some r=>have:=hs 0 r h; rw [R.lab.z] at this; cases this
  have K : Keep (fun _ _=>False) w ρ st.rt w (BX ρ rt2) rt2:=by
    refine ⟨fun b hb _=>⟨by simp [BX,hb],rfl⟩,fun o nv p _ hl=>?_,fun b l hb=>⟨jz.2 ⟨hb,.inl rfl⟩,rfl⟩⟩
    unfold cU cG at hl
    cases hv : cr rt2 o nv p with
    | none=>simp [hv] at hl
    | some r =>
      obtain ⟨h1,h2⟩:=eC hv
      have h3:=hs o r h1
      simp only [hv,cm] at hl
      have : cr st.rt o nv p=some r:=by
        unfold cr at hv ⊢
        rw [h3]
        rw [h1] at hv
        exact hv
      exact ⟨by simpa [cU,cG,this] using hl,fun b n hb hn=>⟨jz.2 ⟨hb,.inr (by rw [h1]; rfl)⟩,hn⟩⟩
  have hNew : ∀ o nv,cC (eN st.nx) rt2 o nv→cC (eN st.nx) st.rt o nv:=by
    rintro o nv (h | ⟨r,h1,h2⟩)
    · exact .inl h
    · exact .inr ⟨r,hs o r h1,h2⟩
  have kp : ∀ {v : V},az (cC (eN st.nx) st.rt) v→az (fun _ _=>False) v:=fun h=>eQ (fun _ _ h=>h.elim) h
  refine ⟨BX ρ rt2,?_⟩
  exact
    { tm := ⟨by rw [ht]; exact R.tm.1, fun i v u hv hu => by
        rcases ht2 i v hv with h | rfl
        · exact (R.tm.2 i v u h hu).keep K (kp (R.tmn i v h))
        · exact be.mk1 rfl (.dead _ _)⟩
      rok:=fun o r h=>cO.under K (fun b l hb _=>⟨jz.2 ⟨hb,.inr (by have h' : rt2 o=some r:=h; simp [h'])⟩,rfl⟩) (R.rok o r (hs o r h)) (R.rtn o r (hs o r h))
      inj:=fun b b' L h h'=>R.inj b b' L (jz.1 h).1 (jz.1 h').1
      rtn:=fun o r h=>R.rtn o r (hs o r h)
      lab:=⟨fun b o l h=>by
        obtain ⟨h1,h2⟩:=jz.1 h
        refine ⟨(R.lab b o l h1).1,?_⟩
        rcases h2 with h2 | h2
        · exact .inl h2
        · exact .inr (Option.isSome_iff_exists.1 h2),hz,fun b l h=>R.lab.f b l (jz.1 h).1⟩
      fresh:=fun o h=>by
        cases hr : rt2 o with
        | none=>exact hr
        | some r=>have:=hs o r hr; rw [R.fresh o h] at this; cases this
      up:=R.up
      tmn:=fun i v hv=>by
        rcases ht2 i v hv with h | rfl
        · exact eQ hNew (R.tmn i v h)
        · simp [az]
      wk:=R.wk
      fr:=fun b hb hl=>⟨by simp [BX,(R.fr b hb hl).1],(R.fr b hb hl).2⟩
      k0:=fun b l hb=>⟨jz.2 ⟨(R.k0 b l hb).1,.inl rfl⟩,(R.k0 b l hb).2⟩
      f0:=fun b l hb=>R.f0 b l (jz.1 hb).1
      df:=R.df
      gr:=⟨R.gr.1,fun b hb=>by simp [BX,R.gr.2.1 b hb],R.gr.2.2⟩
      am:=fun i b n h1 h2 h3 h4=>by
        obtain ⟨r,hr⟩:=Option.isSome_iff_exists.1 h4
        have:=R.am i b n h1 h2 h3 (by rw [hs i r hr]; rfl)
        exact ⟨jz.2 ⟨this.1,.inr h4⟩,this.2⟩
      le:=R.le
      nl:=R.nl }
end
section
def mT:It→Item
 | .code c=>.code c
 | .ops ops is=>.inRegion ops is
 | .blk id=>.inBlock id
 | .lp c=>.inLoop c
 | .dops ops _ _ _=>.inRegion ops []
def mt (P:Program)(R:Act→World→Prop)(todo:List It)(a:Act)(w:World):Prop:=
 ∀(b:Frame) (cs:List Frame),∃a' w' td,R a' w'∧Steps P (lone (b.at a (todo.map mT)) cs w) (lone { b.at a' td with mode:=.returning } cs w')
variable {P : Program} {R : Act→World→Prop} {k : List It} {a : Act} {w : World}
theorem mt.one {t t':List It}(h:∀(b:Frame) (cs:List Frame),step P (lone (b.at a (t.map mT)) cs w)=.next (lone (b.at a (t'.map mT)) cs w))(hk:mt P R t' a w):mt P R t a w:=fun b cs=>
 let ⟨a',w',td,r,s⟩:=hk b cs
 ⟨a',w',td,r,Steps.head (h b cs) s⟩
theorem ny:∀{k k':List It} {id:Nat},ie id k=some k'→exitTo id (k.map mT)=some (k'.map mT)
 | [],k',id,h=>by simp[ie] at h
 | .blk id'::k,k',id,h=>by
  simp only[ie] at h
  split at h
  ·rename_i he
   cases h
   simp[mT,exitTo,he]
  ·rename_i he
   have:=ny h
   have hne:(id==id')=false:=by simp;exact fun h=>he h.symm
   have hne':(id'==id)=false:=by simpa using he
   simp[mT,exitTo,hne,hne',this]
 | .code c::k,k',id,h=>by
  have:=ny (k:=k) (by simpa[ie] using h)
  simp[mT,exitTo,this]
 | .ops o i::k,k',id,h=>by
  have:=ny (k:=k) (by simpa[ie] using h)
  simp[mT,exitTo,this]
 | .lp c::k,k',id,h=>by
  have:=ny (k:=k) (by simpa[ie] using h)
  simp[mT,exitTo,this]
 | .dops _ _ _ _::k,k',id,h=>by
  have:=ny (k:=k) (by simpa[ie] using h)
  simp[mT,exitTo,this]
end
section
variable {P : Program} {R : Act→World→Prop} {k : List It} {a : Act} {w : World}
def Pn (F:Act→World→Prop):Exit→Act→World→Prop
 | .normal,a,w=>F a w
 | _,_,_=>False
def Kb (P:Program)(R:Act→World→Prop):List It→Act→World→Prop
 | .ops ops is::k,a,w=>wpOps P ops (Pn (mt P R k)) is a w
 | [],a,w=>R a w
 | k,a,w=>mt P R k a w
theorem NF {ops:Array Oper}{is:List Nat}(h:wpOps P ops (Pn (mt P R k)) is a w):mt P R (.ops ops is::k) a w:=by
 intro b cs
 obtain⟨e,a1,w1,hq,harr⟩:=wp_ops is a w h b (k.map mT) cs
 cases e with
 | normal=>
  obtain⟨a',w',td,r,s⟩:=hq b cs
  exact⟨a',w',td,r,Steps.trans harr s⟩
 | _=>exact hq.elim
theorem gZ:∀{k:List It},Kb P R k a w→mt P R k a w
 | .ops ops is::k,h=>NF h
 | .code _::_,h=>h
 | .blk _::_,h=>h
 | .lp _::_,h=>h
 | .dops _ _ _ _::_,h=>h
 | [],h=>fun b cs=>⟨_,_,_,h,.one step_end⟩
section
variable {E : Env} {G : Ground} (hG : ∀ f e,E.fn f=some e→gf P G f e) (A : Agree P E) {m : Nat} {w0 : World} {ρ0 : bV} {ρ : bV} {st st' : St} {Q : St→Prop}
include hG A
def IP (G:Ground)(m:Nat)(w0:World)(ρ0:bV)(Q:St→Prop)(a:Act)(w:World):Prop:=∃ρ st,gK G m w0 ρ0 w ρ st a∧Q st
theorem Pv {k':List It}(h:jA E k st=some (k',st'))(R0:gK G m w0 ρ0 w ρ st a)(ih:∀w ρ a,gK G m w0 ρ0 w ρ st' a→Kb P (IP G m w0 ρ0 Q) k' a w):Kb P (IP G m w0 ρ0 Q) k a w:=by
 unfold jA at h
 split at h
 ·cases h
  exact mt.one (fun b cs=>step_skip) (gZ (ih w ρ a R0))
 ·rename_i id ops k
  cases h
  exact mt.one (t':=.ops ops (List.range ops.size)::k) (fun b cs=>step_region) (gZ (ih w ρ a R0))
 ·rename_i x y k
  cases h
  exact mt.one (t':=.code x::.code y::k) (fun b cs=>step_seq) (gZ (ih w ρ a R0))
 ·rename_i c x y k
  simp only[aR] at h
  obtain⟨cv,hc,h⟩:=h
  have hs:=cT R0.tm hc
  split at h
  ·cases h
   exact mt.one (t':=.code x::k) (fun b cs=>step_cond (t:=true) (lP hs)) (gZ (ih w ρ a R0))
  ·cases h
   exact mt.one (t':=.code y::k) (fun b cs=>step_cond (t:=false) (lP hs)) (gZ (ih w ρ a R0))
  ·cases h
 ·rename_i id c k
  cases h
  exact mt.one (t':=.code c::.blk id::k) (fun b cs=>step_block) (gZ (ih w ρ a R0))
 ·rename_i c k
  cases h
  exact mt.one (t':=.code c::.lp c::k) (fun b cs=>step_loop) (gZ (ih w ρ a R0))
 ·rename_i id k
  simp only[aU] at h
  obtain⟨k1,hk,h⟩:=h
  cases h
  exact mt.one (fun b cs=>step_exit (ny hk)) (gZ (ih w ρ a R0))
 ·cases h
  exact fun b cs=>⟨a,w,_,ih w ρ a R0,.one step_ret⟩
 ·cases h
  exact gZ (ih w ρ a R0)
 ·rename_i ops i is k
  simp only[aU] at h
  obtain⟨st1,hst,h⟩:=h
  cases h
  exact R0.step hG A hst fun w' ρ' a' R'=>ih w' ρ' a' R'
 ·cases h
  exact mt.one (fun b cs=>step_inBlock) (gZ (ih w ρ a R0))
 ·rename_i c k
  cases h
  exact mt.one (t':=.code c::.lp c::k) (fun b cs=>step_inLoop) (gZ (ih w ρ a R0))
 ·cases h
end
end
section
variable {w : World} {ρ : bV} {rt rt' : an}
theorem jK {o:Nat}:∀{os:List Nat} {n m:Nat},oH o os n=some m→n≤m∧os[m - n]?=some o
 | [],n,m,h=>by simp[oH] at h
 | x::xs,n,m,h=>by
  simp only[oH] at h
  split at h
  ·rename_i hx
   cases h
   subst hx
   simp
  ·obtain⟨h1,h2⟩:=jK h
   refine⟨by omega,?_⟩
   rw[show m - n=(m - (n+1))+1 by omega]
   simpa using h2
def ij (ρ:bV)(os:List Nat):bV:=fun b=>
 match ρ b with
 | none=>none
 | some (o,l)=>if o=0 then some (0,l) else (oH o os 1).map fun n=>(n,l)
theorem mz {os b}(h:ρ b=none):ij ρ os b=none:=by simp[ij,h]
theorem FJ {os b l}(h:ρ b=some (0,l)):ij ρ os b=some (0,l):=by simp[ij,h]
theorem kG {os b o l n}(h:ρ b=some (o,l))(h0:o≠0)(hn:oH o os 1=some n):ij ρ os b=some (n,l):=by simp[ij,h,h0,hn]
theorem mh {os b n l}(h:ij ρ os b=some (n,l)):(n=0∧ρ b=some (0,l))∨∃o,ρ b=some (o,l)∧o≠0∧oH o os 1=some n:=by
 unfold ij at h
 split at h
 ·cases h
 ·rename_i o l' hb
  split at h
  ·rename_i h0
   cases h
   subst h0
   exact .inl ⟨rfl,hb⟩
  ·rename_i h0
   simp only[aU] at h
   obtain⟨m,hm,h⟩:=h
   cases h
   exact .inr ⟨o,hb,h0,hm⟩
theorem sh:∀{xs acc:List Nat},acc.Nodup→(oI acc xs).Nodup
 | [],acc,h=>h
 | x::xs,acc,h=>by
  simp only[oI]
  split
  ·exact sh h
  ·rename_i hx
   refine sh (List.nodup_append.2 ⟨h,by simp,?_⟩)
   intro a ha b hb hab
   simp at hb
   subst hb
   subst hab
   exact hx (by simpa using ha)
theorem tY:∀{os:List Nat} {n m o:Nat},os.Nodup→os[m]?=some o→oH o os n=some (n+m)
 | [],n,m,o,hd,h=>by simp at h
 | x::xs,n,m,o,hd,h=>by
  simp only[oH]
  cases m with
  | zero=>simp at h;subst h;simp
  | succ m=>
   have hd':=List.nodup_cons.1 hd
   have hne:x≠o:=by
    rintro rfl
    exact hd'.1 (iV (by simpa using h))
   rw[if_neg hne,tY hd'.2 (by simpa using h)]
   congr 1
   omega
def gR (rt:an)(os:List Nat):an:=wY (os.map fun o=>(rt o).map fun r=>⟨0,r.s,r.es⟩)
theorem ot {os:List Nat}{o n:Nat}(hn:oH o os 1=some n):gR rt os n=(rt o).map fun r=>⟨0,r.s,r.es⟩:=by
 obtain⟨h1,h2⟩:=jK hn
 unfold gR wY
 rw[if_neg (by omega),List.getElem?_map,h2]
 simp
theorem sj {os:List Nat}(hd:os.Nodup){n:Nat}{r':Root}(h:gR rt os n=some r'):∃o r,oH o os 1=some n∧rt o=some r∧r'=⟨0,r.s,r.es⟩:=by
 unfold gR wY at h
 split at h
 ·cases h
 ·rename_i h0
  rw[List.getElem?_map] at h
  cases ho:os[n - 1]? with
  | none=>simp[ho] at h
  | some o=>
   simp only[ho,Option.map_some,cm,aU] at h
   obtain⟨r,hr,rfl⟩:=h
   exact⟨o,r,by rw[tY hd ho];congr 1;omega,hr,rfl⟩
end
section
variable {w : World} {ρ : bV} {rt : an}
theorem NX {os:List Nat}{v:V}(h:ay v=false):ay (fu rt os v)=false:=by
 cases v<;>first | (simp[ay] at h;done) | skip
 all_goals simp only[fu]<;>first | rfl | (split<;>rfl)
theorem gj {os:List Nat}:∀{vs:List V},lL rt os vs=vs.map (fu rt os)
 | []=>rfl
 | v::vs=>by simp[lL,gj]
theorem nu {os:List Nat}{v:V}:cells (fu rt os v)=(cells v).map (fu rt os):=by
 by_cases ha:ay v=true
 ·cases v<;>simp[ay] at ha
  simp[fu,cells,gj]
 ·have ha':ay v=false:=by simpa using ha
  rw[b9 ha',b9 (NX ha')]
  rfl
theorem Gu {os:List Nat}{v:V}:ay (fu rt os v)=ay v:=by
 by_cases ha:ay v=true
 ·cases v<;>simp[ay] at ha
  simp[fu,ay]
 ·have ha':ay v=false:=by simpa using ha
  rw[NX ha',ha']
theorem K7 {os:List Nat}(hd:os.Nodup){o n nv:Nat}{p:List (Nat×Nat)}{r:Root}(hv:cr rt o nv p=some r)(hn:oH o os 1=some n)(h:cU (gR rt os) n 0 p):cU rt o nv p:=by
 unfold cU cG at h ⊢
 rw[hv]
 have h1:=ot (rt:=rt) hn
 rw[(eC hv).1] at h1
 simp only[cr,h1,Option.map_some] at h
 simpa using h
section
variable (hL : Lab w ρ rt jW) {os : List Nat} (hd : os.Nodup)
include hL hd
theorem Hw:Keep0 (fun _ _=>True) w ρ rt w (ij ρ os) (gR rt os):=⟨fun b hb _=>⟨mz hb,rfl⟩,fun _ _ _ h _=>absurd trivial h⟩
theorem NY {L:Option dP}{v:V}{u:Value}(h:RepV w ρ rt L v u):L=none→az (fun o _=>rt o=none∧False) v→RepV w (ij ρ os) (gR rt os) none (fu rt os v) u:=by
 have K:=Hw hL hd
 have far:∀{v:V} {u:Value},RepV w ρ rt none v u→nh v→RepV w (ij ρ os) (gR rt os) none v u:=fun h hn=>by
  have:=h.mono0 K id (fun _=>False) (fun _ _ _ _=>rfl) (fun _ _ _ h=>h) (fun _ _ h=>h.elim) (by simp) (dA hn)
  simpa using this
 induction h with
 | und L=>exact fun _ _=>by simpa[fu] using RepV.und none
 | dead L u=>exact fun _ _=>by simpa[fu] using RepV.dead none u
 | bool L b=>exact fun _ _=>by simpa[fu] using RepV.bool none b
 | int L k n=>exact fun _ _=>by simpa[fu] using RepV.int none k n
 | str L s=>exact fun _ _=>by simpa[fu] using RepV.str none s
 | nilp L=>exact fun _ _=>by simpa[fu] using RepV.nilp none
 | nilfn L=>exact fun _ _=>by simpa[fu] using RepV.nilfn none
 | nilif L=>exact fun _ _=>by simpa[fu] using RepV.nilif none
 | fn L f caps g h ih=>
  intro _ hn
  simp only[fu]
  have:caps.length=(lL rt os caps).length:=by simp[gj]
  rw[this]
  refine .fn _ _ _ g fun i v hv=>?_
  rw[gj,List.getElem?_map] at hv
  obtain⟨v0,hv0,rfl⟩:=aU.1 hv
  exact ih i v0 hv0 rfl (gE (by simpa[az] using hn) hv0)
 | iface L t v g h ih=>
  exact fun hL hn=>by
   simp only[fu]
   exact far (.iface none t v g h) (by simpa[az,nh] using hn)
 | tup L vs p g hp h ih=>
  intro _ hn
  simp only[fu]
  have:vs.length=(lL rt os vs).length:=by simp[gj]
  rw[this]
  refine .tup _ _ p g (fun c v hv=>?_) fun c v k x hv hx=>?_
  ·rw[gj,List.getElem?_map] at hv
   obtain⟨v0,hv0,rfl⟩:=aU.1 hv
   rw[hp c v0 hv0]
   unfold fS
   rw[Gu,nu,List.length_map]
  ·rw[gj,List.getElem?_map] at hv
   obtain⟨v0,hv0,rfl⟩:=aU.1 hv
   rw[nu,List.getElem?_map] at hx
   obtain⟨x0,hx0,rfl⟩:=aU.1 hx
   exact ih c v0 k x0 hv0 hx0 rfl (jl (gE (by simpa[az] using hn) hv0) hx0)
 | iptr L e k b off g hb hρ hc h ih=>
  exact fun _ hn=>by
   simp only[fu]
   exact far (.iptr none e k b off g hb hρ hc h) (by simpa[az,nh] using hn)
 | isl0 L nl A c hn=>exact fun _ _=>by simpa[fu] using RepV.isl0 none nl A c hn
 | isl L es b off c s g hl h0 hρ hb hs hc h ih=>
  exact fun _ hn=>by
   simp only[fu]
   exact far (.isl none es b off c s g hl h0 hρ hb hs hc h) (by simpa[az,nh] using hn)
 | usl0 l s A=>exact fun h=>by cases h
 | usl l s es b A c arr T g hρ hb hl hA hcap hs hc h ih=>exact fun h=>by cases h
 | uptr l e b arr T g hρ hb hc h ih=>exact fun h=>by cases h
 | hp L o nv p s i k u h h1=>
  intro _ _
  simp only[fu]
  split
  ·rename_i r n hv hn
   refine .hp _ _ _ _ _ _ _ _ (fun hl=>?_) h1
   obtain⟨b,m,hb,hbl,hu⟩:=h (K7 hd hv hn hl)
   have ho:o≠0:=by
    rintro rfl
    have h2:=(eC hv).1
    rw[hL.z] at h2
    cases h2
   exact⟨b,m,kG hb ho hn,hbl,hu⟩
  ·exact .dead _ _
 | hs L o nv p s off len u h h1=>
  intro _ _
  simp only[fu]
  split
  ·rename_i r n hv hn
   refine .hs _ _ _ _ _ _ _ _ (fun hl=>?_) h1
   obtain⟨c,A,hu,hlc,hcc⟩:=h (K7 hd hv hn hl)
   have ho:o≠0:=by
    rintro rfl
    have h2:=(eC hv).1
    rw[hL.z] at h2
    cases h2
   exact⟨c,A,hu,hlc,fun h0=>by
    obtain⟨b,m,hb,hbl,h3,h4⟩:=hcc h0
    exact⟨b,m,kG hb ho hn,hbl,h3,h4⟩⟩
  ·exact .dead _ _
end
end
section
variable {w : World} {ρ : bV} {rt : an}
theorem pF {L:List Nat}:∀{tm:List V} {n i:Nat} {v:V},(gq L n tm)[i]?=some v→∃v0,tm[i]?=some v0∧(v=v0∨v=.dead)
 | [],n,i,v,h=>by simp[gq] at h
 | x::tm,n,0,v,h=>by
  simp only[gq,List.getElem?_cons_zero,Option.some.injEq] at h
  refine⟨x,by simp,?_⟩
  split at h
  ·exact .inl h.symm
  ·exact .inr h.symm
 | x::tm,n,i+1,v,h=>by
  simp only[gq,List.getElem?_cons_succ] at h
  simpa using pF h
theorem xb {L:List Nat}:∀{tm:List V} {n:Nat},(gq L n tm).length=tm.length
 | [],n=>rfl
 | x::tm,n=>by simp[gq,xb]
theorem FK {os:List Nat}(hd:os.Nodup)(J:fg ρ):fg (ij ρ os):=by
 rintro b b' ⟨n,l⟩ h h'
 rcases mh h with⟨h0,h1⟩ | ⟨o,h1,h2,h3⟩<;>rcases mh h' with⟨h0',h1'⟩ | ⟨o',h1',h2',h3'⟩
 ·exact J b b' _ h1 h1'
 ·subst h0;have:=(jK h3').1;omega
 ·subst h0';have:=(jK h3).1;omega
 ·have e:o=o':=by
   have a:=(jK h3).2
   have a':=(jK h3').2
   rw[a] at a'
   simpa using a'
  subst e
  exact J b b' _ h1 h1'
theorem NW {os:List Nat}(hd:os.Nodup)(hL:Lab w ρ rt jW):Lab w (ij ρ os) (gR rt os) jW:=by
 refine⟨fun b n l h=>?_,by simp[gR,wY],fun b l h=>?_⟩
 ·rcases mh h with⟨h0,h1⟩ | ⟨o,h1,h2,h3⟩
  ·exact⟨(hL.l b 0 l h1).1,.inl h0⟩
  ·obtain⟨h4,h5⟩:=hL.l b o l h1
   rcases h5 with h5 | ⟨r,h5⟩
   ·exact absurd h5 h2
   ·exact⟨h4,.inr ⟨_,by rw[ot h3,h5];rfl⟩⟩
 ·rcases mh h with⟨h0,h1⟩ | ⟨o,h1,h2,h3⟩
  ·exact hL.f b l h1
  ·have:=(jK h3).1;omega
theorem NZ {os:List Nat}(hd:os.Nodup)(hL:Lab w ρ rt jW)(H:eM w ρ rt)(hr:ib rt):eM w (ij ρ os) (gR rt os):=by
 intro n r' h
 obtain⟨o,r,hn,ho,rfl⟩:=sj hd h
 have ho0:o≠0:=by rintro rfl;rw[hL.z] at ho;cases ho
 rcases H o r ho with h0 | ⟨b,arr,T,g,h1,h2,h3,h4,h5⟩
 ·exact .inl h0
 ·refine .inr ⟨b,arr,T,g,kG h1 ho0 hn,h2,h3,h4,fun i e k x he hx=>?_⟩
  have K:Keep0 (fun _ _=>True) w ρ rt w (ij ρ os) (gR rt os):=Hw hL hd
  have:=(h5 i e k x he hx).mono0 K (fun l=>(n,l.2)) (fun l=>l.1=o) (fun l i k _=>rfl) (fun l i k h=>h)
   (fun b l hl hb=>⟨by
    obtain⟨lo,ll⟩:=l
    simp only at hl
    subst hl
    exact kG hb ho0 hn,rfl⟩) (fun l hl=>by cases hl;rfl) (dA (ce (dj (hr o r ho) he) hx))
  simpa[dP.at] using this
theorem FL {os:List Nat}{n:Nat}(h:os.length+1≤n):gR rt os n=none:=by
 unfold gR wY
 rw[if_neg (by omega),List.getElem?_eq_none (by simp;omega)]
 rfl
theorem V4 {os:List Nat}(hd:os.Nodup){n:Nat}{r:Root}(h:gR rt os n=some r):r.nv=0:=by
 obtain⟨o,r0,_,_,rfl⟩:=sj hd h
 rfl
mutual
theorem K8 {os:List Nat}(hd:os.Nodup){N:Nat→Nat→Prop}:∀{v:V},az N v→az (cC (eN (os.length+1)) (gR rt os)) (fu rt os v)
 | .und,_=>by simp[fu,az]
 | .dead,_=>by simp[fu,az]
 | .bool _,_=>by simp[fu,az]
 | .int _ _,_=>by simp[fu,az]
 | .str _,_=>by simp[fu,az]
 | .nilp,_=>by simp[fu,az]
 | .nilfn,_=>by simp[fu,az]
 | .nilif,_=>by simp[fu,az]
 | .fn _ cs,h=>by simp only[fu,az] at h ⊢;exact yi hd h
 | .agg cs,h=>by simp only[fu,az] at h ⊢;exact yi hd h
 | .tup cs,h=>by simp only[fu,az] at h ⊢;exact yi hd h
 | .iface _ v,h=>by simpa[fu,az] using h
 | .iptr e _,h=>by simpa[fu,az] using h
 | .isl _ es,h=>by simpa[fu,az] using h
 | .uptr e,h=>by simpa[fu,az] using h
 | .usl _ es,h=>by simpa[fu,az] using h
 | .hp o nv p s i k,h=>by
  simp only[fu]
  split
  ·rename_i r n hv hn
   simp only[az]
   rintro (h1 | ⟨r',h1,h2⟩)
   ·unfold eN at h1
    obtain⟨h3,h4⟩:=jK hn
    have:=(cZ.1 h4).1
    omega
   ·omega
  ·simp[az]
 | .hs o nv p s i k,h=>by
  simp only[fu]
  split
  ·rename_i r n hv hn
   simp only[az]
   rintro (h1 | ⟨r',h1,h2⟩)
   ·unfold eN at h1
    obtain⟨h3,h4⟩:=jK hn
    have:=(cZ.1 h4).1
    omega
   ·have:=V4 hd h1
    omega
  ·simp[az]
theorem yi {os:List Nat}(hd:os.Nodup){N:Nat→Nat→Prop}:∀{vs:List V},dI N vs→dI (cC (eN (os.length+1)) (gR rt os)) (lL rt os vs)
 | [],_=>by simp[lL,dI]
 | v::vs,h=>by simp only[lL,dI] at h ⊢;exact⟨K8 hd h.1,yi hd h.2⟩
end
end
section
variable {G : Ground} {m : Nat} {w0 w : World} {ρ0 ρ : bV} {st : St} {a : Act}
theorem zu (m:Nat):(ja m).Nodup:=by
 unfold ja
 exact List.nodup_range'
theorem yg:∀{xs acc:List Nat},∃r,oI acc xs=acc++r
 | [],acc=>⟨[],by simp[oI]⟩
 | x::xs,acc=>by
  simp only[oI]
  split
  ·exact yg
  ·obtain⟨r,h⟩:=@yg xs (acc++[x])
   exact⟨x::r,by rw[h];simp⟩
theorem S9 {m i:Nat}{xs:List Nat}(h1:0<i)(h2:i≤m):oH i (oI (ja m) xs) 1=some i:=by
 have hd:(oI (ja m) xs).Nodup:=sh (zu m)
 obtain⟨r,h⟩:=@yg xs (ja m)
 have hg:(oI (ja m) xs)[i - 1]?=some i:=by
  rw[h,lT (by simp[ja];omega)]
  simp[ja,List.getElem?_range',show i - 1<m by omega]
  omega
 rw[tY hd hg]
 congr 1;omega
theorem Ym {m:Nat}{xs:List Nat}:m≤(oI (ja m) xs).length:=by
 obtain⟨r,h⟩:=@yg xs (ja m)
 rw[h];simp[ja]
theorem gK.forget (R:gK G m w0 ρ0 w ρ st a)(L:List Nat):∃ρ',gK G m w0 ρ0 w ρ' (om m L st) a:=by
 have hd:(oI (ja m) (et (gq L 0 st.tm))).Nodup:=sh (zu m)
 have hfx:∀i,0<i→i≤m→oH i (oI (ja m) (et (gq L 0 st.tm))) 1=some i:=fun i h1 h2=>S9 h1 h2
 have hlen:m≤(oI (ja m) (et (gq L 0 st.tm))).length:=Ym
 generalize hos:oI (ja m) (et (gq L 0 st.tm))=os at hd hfx hlen
 have e1:(om m L st).tm=lL st.rt os (gq L 0 st.tm):=by simp[om,hos]
 have e2:(om m L st).rt=gR st.rt os:=by simp[om,hos,gR]
 have e3:(om m L st).nx=os.length+1:=by simp[om,hos]
 have nn:∀(i:Nat) v,(gq L 0 st.tm)[i]?=some v→az (cC (eN st.nx) st.rt) v:=fun i v hv=>by
  obtain⟨v0,h1,h2 | h2⟩:=pF hv
  ·subst h2;exact R.tmn i v h1
  ·subst h2;simp[az]
 refine⟨ij ρ os,⟨?_,?_,FK hd R.inj,?_,?_,?_,?_,?_,R.wk,?_,?_,?_,R.df,?_,?_,R.le,fun i h1 h2=>by rw[e3] at h2;unfold eN at h2;omega⟩⟩
 ·rw[e1,e2]
  refine⟨by rw[gj,List.length_map,xb];exact R.tm.1,fun i v u hv hu=>?_⟩
  rw[gj,List.getElem?_map] at hv
  obtain⟨v1,hv1,rfl⟩:=aU.1 hv
  obtain⟨v0,h0,h2 | h2⟩:=pF hv1
  ·subst h2
   obtain⟨g,hg,hs⟩:=R.tm.2 i v1 u h0 hu
   refine⟨g,?_,fun k x hx=>?_⟩
   ·rw[hg];unfold fS;rw[Gu,nu,List.length_map]
   ·rw[nu,List.getElem?_map] at hx
    obtain⟨x0,hx0,rfl⟩:=aU.1 hx
    exact NY R.lab hd (hs k x0 hx0) rfl (eQ (by rintro o nv ⟨_,h⟩;exact h.elim) (jl (R.tmn i v1 h0) hx0))
  ·subst h2
   simp only[fu]
   exact be.mk1 rfl (.dead _ _)
 ·rw[e2];exact NZ hd R.lab R.rok R.rtn
 ·rw[e2]
  intro n r h
  obtain⟨o,r0,_,h1,rfl⟩:=sj hd h
  exact R.rtn o r0 h1
 ·rw[e2];exact NW hd R.lab
 ·rw[e2,e3];exact fun o ho=>FL ho
 ·rw[e3];intro o ho;unfold eN at ho;omega
 ·rw[e1,e2,e3]
  intro i v hv
  rw[gj,List.getElem?_map] at hv
  obtain⟨v1,hv1,rfl⟩:=aU.1 hv
  exact K8 hd (nn i v1 hv1)
 ·exact fun b h1 h2=>⟨mz (R.fr b h1 h2).1,(R.fr b h1 h2).2⟩
 ·exact fun b l h=>⟨FJ (R.k0 b l h).1,(R.k0 b l h).2⟩
 ·intro b l h
  rcases mh h with⟨_,h1⟩ | ⟨o,h1,h2,h3⟩
  ·exact R.f0 b l h1
  ·have:=(jK h3).1;omega
 ·exact⟨R.gr.1,fun b hb=>mz (R.gr.2.1 b hb),R.gr.2.2⟩
 ·intro i b n hi hb hn hs
  have hle:=R.le b i [] hb
  rw[e2,ot (hfx i hi hle)] at hs
  have h0:=R.am i b n hi hb hn (by simpa using hs)
  exact⟨kG h0.1 (by omega) (hfx i hi hle),h0.2⟩
end
section
variable {w w' : World} {ρ ρ' : bV} {rt rt' : an}
theorem MW {P:Program}{E:Env}(A:Agree P E)(H:eM w ρ rt)(J:fg ρ){st:St}(hst:st.rt=rt){tmps:Array Value}(T:jE w ρ rt st.tm tmps){r:ResultVar}{v:V}(h:mi E st r=some v) :
  ∃u,((match r with
   | .tmp t=>pure (tmps.getD t undef)
   | .cell a t=>do loadVar t (←asAddr (tmps.getD a undef))):Sem Value).run P w=.ok u w∧be w ρ rt b7 v u:=by
 cases r with
 | tmp t=>
  simp only[mi] at h
  have hl:=(cZ.1 h).1
  obtain⟨u,hu⟩:∃u,tmps[t]?=some u:=⟨_,Array.getElem?_eq_getElem (by rw[←T.1];exact hl)⟩
  exact⟨u,by simp[Array.getD_eq_getD_getElem?,hu],T.2 t v u h hu⟩
 | cell a t=>
  simp only[mi,aR] at h
  obtain⟨ti,ht,p,hp,cs,hc,h⟩:=h
  split at h
  ·rename_i hsz
   have hl:=(cZ.1 hp).1
   obtain⟨u0,hu0⟩:∃u,tmps[a]?=some u:=⟨_,Array.getElem?_eq_getElem (by rw[←T.1];exact hl)⟩
   have hpv:ay p=false:=by cases p<;>first | rfl | simp[kb] at hc
   rw[hst] at hc
   obtain⟨b,off,hu,hr⟩:=Kz H J hc (be.one hpv (T.2 a p u0 hp hu0)) (by omega)
   have hx:∀j,j<ti.size→∃y,w.cell? ⟨b,off+j,none⟩=some y∧∀x,cs[j]?=some x→RepV w ρ rt none x y:=by
    intro j hj
    obtain⟨y,h1,h2⟩:=hr j (cs[j]'(by omega)) (by simp)
    exact⟨y,h1,fun x hx=>by rw[eo (by omega)] at hx;cases hx;exact h2⟩
   have hg:∃g:Nat→Value,∀j,j<ti.size→w.cell? ⟨b,off+j,none⟩=some (g j)∧∀x,cs[j]?=some x→RepV w ρ rt none x (g j):=by
    refine⟨fun j=>if hj:j<ti.size then (hx j hj).choose else undef,fun j hj=>?_⟩
    simp only[hj,dif_pos]
    exact (hx j hj).choose_spec
   obtain⟨g,hg⟩:=hg
   have h1:eS ti.desc=false→ti.size=1:=fun ha=>by
    unfold ke at h
    rw[if_neg (by simp[ha])] at h
    split at h
    ·rename_i v' hv'
     have:=congrArg List.length hv'
     simp[Nat.min_eq_left hsz.2] at this
     exact this
    ·cases h
   refine⟨_,?_,va (g:=g) h (fun k x hk=>?_)⟩
   ·simp only[Array.getD_eq_getD_getElem?,hu0,Option.getD_some,hu,asAddr,Sem.run_bind,Sem.run_pure,Result.andThen]
    rw[zE A ht (fun j hj=>(hg j hj).1) h1]
    simp[List.length_take,Nat.min_eq_left hsz.2]
   ·rw[List.getElem?_take] at hk
    split at hk
    ·rename_i hk'
     exact (hg k hk').2 x hk
    ·cases hk
  ·cases h
theorem rk {E:Env}{st:St}:∀{rs:List ResultVar} {vs:List V},hP E st rs=some vs→vs.length=rs.length∧∀(i:Nat) r v,rs[i]?=some r→vs[i]?=some v→mi E st r=some v
 | [],vs,h=>by simp[hP] at h;subst h;simp
 | r::rs,vs,h=>by
  simp only[hP,aR,aU] at h
  obtain⟨v,hv,ys,hys,rfl⟩:=h
  have ih:=rk hys
  refine⟨by simp[ih.1],fun i r' v' h1 h2=>?_⟩
  cases i with
  | zero=>simp at h1 h2;subst h1 h2;exact hv
  | succ i=>exact ih.2 i r' v' (by simpa using h1) (by simpa using h2)
theorem MX {P:Program}{E:Env}(A:Agree P E)(H:eM w ρ rt)(J:fg ρ){st:St}(hst:st.rt=rt){tmps:Array Value}(T:jE w ρ rt st.tm tmps){fn:Func}{vs:List V}(h:hP E st fn.results.toList=some vs) :
  ∃p:Nat→Value,(results fn tmps).run P w=.ok (if vs.length=1 then p 0 else .tuple (dT vs.length p)) w∧∀(i:Nat) v,vs[i]?=some v→be w ρ rt b7 v (p i):=by
 obtain⟨hl,hg⟩:=rk h
 have hx:∀i,i<vs.length→∃u,∀r v,fn.results.toList[i]?=some r→vs[i]?=some v→((match r with
   | .tmp t=>pure (tmps.getD t undef)
   | .cell a t=>do loadVar t (←asAddr (tmps.getD a undef))):Sem Value).run P w=.ok u w∧be w ρ rt b7 v u:=by
  intro i hi
  obtain⟨u,h1,h2⟩:=MW A H J hst T (hg i _ _ (eo (by omega)) (eo hi))
  refine⟨u,fun r v hr hv=>?_⟩
  rw[eo (by omega)] at hr
  rw[eo hi] at hv
  cases hr
  cases hv
  exact⟨h1,h2⟩
 have hp:∃p:Nat→Value,∀i,i<vs.length→∀r v,fn.results.toList[i]?=some r→vs[i]?=some v→((match r with
   | .tmp t=>pure (tmps.getD t undef)
   | .cell a t=>do loadVar t (←asAddr (tmps.getD a undef))):Sem Value).run P w=.ok (p i) w∧be w ρ rt b7 v (p i):=by
  refine⟨fun i=>if hi:i<vs.length then (hx i hi).choose else undef,fun i hi=>?_⟩
  simp only[hi,dif_pos]
  exact (hx i hi).choose_spec
 obtain⟨p,hp⟩:=hp
 refine⟨p,?_,fun i v hv=>?_⟩
 ·have hm:=BL (P:=P) w (l:=fn.results.toList) (r:=(List.range vs.length).map p) (f:=fun r=>((match r with
   | .tmp t=>pure (tmps.getD t undef)
   | .cell a t=>do loadVar t (←asAddr (tmps.getD a undef))):Sem Value)) (by simp[hl]) (fun i r u h1 h2=>by
    rw[List.getElem?_map] at h2
    obtain⟨j,hj,rfl⟩:=aU.1 h2
    have hi:i<vs.length:=by
     have:=(cZ.1 hj).1
     simpa using this
    have:j=i:=by simpa[List.getElem?_range hi] using hj.symm
    subst this
    exact (hp j hi r _ h1 (eo hi)).1)
  unfold results
  rw[Array.mapM_eq_mapM_toList]
  simp only[Sem.run_bind,map_eq_pure_bind,Sem.run_pure,Result.andThen]
  erw [hm]
  simp only[Result.andThen,List.size_toArray,List.length_map,List.length_range]
  by_cases h1:vs.length=1
  ·simp[h1]
  ·simp[h1,dT]
 ·have hi:=(cZ.1 hv).1
  exact (hp i hi _ v (eo (by omega)) hv).2
end
section
variable {w w' : World} {ρ ρ' : bV} {rt rt' : an}
theorem yh {rt:an}:∀{own:List Bool} {vs:List V} {a:Nat} {x:V},em own (dG rt own vs) a=some x→∃v,vs[a]?=some v∧x=GF rt v
 | [],vs,a,x,h=>by cases vs<;>simp[dG,em] at h
 | true::bs,[],a,x,h=>by simp[dG,em] at h
 | false::bs,[],0,x,h=>by simp[em] at h
 | false::bs,[],a+1,x,h=>by
  simp only[dG,em] at h
  have:dG rt bs []=[]:=by
   cases bs with
   | nil=>rfl
   | cons b _=>cases b<;>rfl
  rw[←this] at h
  obtain⟨v,hv,_⟩:=yh h
  simp at hv
 | true::bs,v::vs,0,x,h=>by simp[dG,em] at h;exact⟨v,by simp,h.symm⟩
 | true::bs,v::vs,a+1,x,h=>by
  simp only[dG,em] at h
  obtain⟨y,hy,hx⟩:=yh h
  exact⟨y,by simpa using hy,hx⟩
 | false::bs,v::vs,0,x,h=>by simp[em] at h
 | false::bs,v::vs,a+1,x,h=>by
  simp only[dG,em] at h
  obtain⟨y,hy,hx⟩:=yh h
  exact⟨y,by simpa using hy,hx⟩
theorem Hs {v:V}(h:dh v=true):ay v=false∧notOwn v:=by
 cases v<;>simp[dh] at h<;>exact⟨rfl,trivial⟩
theorem MS {v:V}:ay (fQ rt v)=false:=by
 unfold fQ
 split
 ·rename_i x hx
  unfold xY at hx
  split at hx
  ·simp only[aR] at hx
   obtain⟨r,_,hx⟩:=hx
   split at hx<;>cases hx
   rfl
  ·simp only[aR] at hx
   obtain⟨r,_,hx⟩:=hx
   split at hx
   ·split at hx<;>cases hx
    rfl
   ·cases hx
  ·split at hx
   ·rename_i hp
    cases hx
    exact (Hs hp).1
   ·cases hx
 ·rfl
theorem OV {v:V}:cells (GF rt v)=(cells v).map (fQ rt):=by
 by_cases ha:ay v=true
 ·cases v<;>simp[ay] at ha
  rfl
 ·have ha':ay v=false:=by simpa using ha
  have:GF rt v=fQ rt v:=by cases v<;>first | rfl | simp[ay] at ha
  rw[this,b9 ha',b9 MS]
  rfl
theorem sQ {v:V}(h:¬notOwn (fQ rt v)):(∃o nv s len r,v=.hs o nv [] s 0 len∧rt o=some r∧len=r.es.length∧s=r.s∧fQ rt v=.usl s r.es)∨
  (∃o nv s e r,v=.hp o nv [] s 0 0∧rt o=some r∧r.es=[e]∧s=r.s∧(cells e).length=s∧fQ rt v=.uptr e):=by
 unfold fQ at h ⊢
 split at h
 ·rename_i x hx
  unfold xY at hx
  split at hx
  ·rename_i o nv s off len
   simp only[aR] at hx
   obtain⟨r,hr,hx⟩:=hx
   split at hx
   ·rename_i hc
    cases hx
    obtain⟨rfl,h2,h3⟩:=hc
    exact .inl ⟨o,nv,s,len,r,rfl,hr,h2,h3,rfl⟩
   ·cases hx
  ·rename_i o nv s i k
   simp only[aR] at hx
   obtain⟨r,hr,hx⟩:=hx
   split at hx
   ·rename_i e he
    split at hx
    ·rename_i hc
     cases hx
     obtain⟨rfl,rfl,h2,h3⟩:=hc
     exact .inr ⟨o,nv,s,e,r,rfl,hr,he,h2,h3,rfl⟩
    ·cases hx
   ·cases hx
  ·split at hx
   ·rename_i hp
    cases hx
    exact absurd (Hs hp).2 h
   ·cases hx
 ·exact absurd trivial h
def iI (ρ:bV)(q:Nat)(R:List oP):bV:=fun b=>
 match ρ b with
 | none=>none
 | some (o,l)=>if o=0 then some (0,l) else if o=q then some (2,l) else (R[o - 1]?).map fun e=>(1,(e.1,e.2.1)::l)
theorem zr {q R b}(h:ρ b=none):iI ρ q R b=none:=by simp[iI,h]
theorem OY {q R b l}(h:ρ b=some (0,l)):iI ρ q R b=some (0,l):=by simp[iI,h]
theorem OZ {q R b l}(h:ρ b=some (q,l))(h0:q≠0):iI ρ q R b=some (2,l):=by simp[iI,h,h0]
theorem nV {q R b l j c k r}(h:ρ b=some (1+j,l))(hq:1+j≠q)(hj:R[j]?=some (c,k,r)):iI ρ q R b=some (1,(c,k)::l):=by
 unfold iI
 rw[h]
 simp only
 rw[if_neg (by omega),if_neg hq,show 1+j - 1=j by omega,hj]
 rfl
theorem pZ {q R b n l}(h:iI ρ q R b=some (n,l)):(n=0∧ρ b=some (0,l))∨(n=2∧q≠0∧ρ b=some (q,l))∨∃j c k r t,n=1∧l=(c,k)::t∧ρ b=some (1+j,t)∧1+j≠q∧R[j]?=some (c,k,r):=by
 unfold iI at h
 split at h
 ·cases h
 ·rename_i o l' hb
  split at h
  ·rename_i h0
   cases h
   subst h0
   exact .inl ⟨rfl,hb⟩
  ·rename_i h0
   split at h
   ·rename_i hq
    cases h
    subst hq
    exact .inr (.inl ⟨rfl,h0,hb⟩)
   ·rename_i hq
    simp only[aU] at h
    obtain⟨⟨c,k,r⟩,he,h⟩:=h
    cases h
    exact .inr (.inr ⟨o - 1,c,k,r,l',rfl,rfl,by rw[show 1+(o - 1)=o by omega];exact hb,by omega,he⟩)
theorem We {v:V}(h:(cells v).all fA=true):ma v=false:=by
 cases v<;>first | rfl | simp[cells,fA] at h
structure Fits (fn:Func) (c:Code) (n:Nat):Prop where
 body:fn.body=some c
 name : (fn.name == "runtime.NumGoroutine") = false
 args:n≤fn.ntmps
theorem Hz {P:Program}{f:FuncId}{fn:Func}{c:Code}{n:Nat}(hf:P.funcs[f]?=some fn)(F:Fits fn c n)(us:Array Value)(w:World):(callFunc f us).run P w=.ok (.enter f us) w:=by
 have:=F.name
 simp at this
 simp[callFunc,hf,F.body,this]
def sR (vs:List V):Nat:=(bU 1 0 vs).2.length
theorem SD {P:Program}{G:Ground}{vs:List V}{us:List Value}(ha:pq w ρ vs us)(hi:Inn w ρ)(hg:G.ok w ρ){fn:Func}(hn:vs.length≤fn.ntmps) :
  gK G (sR vs) w (fJ ρ 1 1 (bU 1 0 vs).2) w (fJ ρ 1 1 (bU 1 0 vs).2) (enter fn vs).2 { tmps:=us.toArray++Array.replicate (fn.ntmps - us.toArray.size) undef,defers:=[] }:=by
 have hp:∃p:Nat→Value,∀(a:Nat) u,us[a]?=some u→u=p a:=⟨fun a=>us.getD a undef,fun a u h=>by simp[List.getD_eq_getElem?_getD,h]⟩
 obtain⟨p,hp⟩:=hp
 have pl:=KX (N:=fun _ _=>True) (w:=w) (ρ:=ρ) (rt:=iw) (q:=1) (id:=1) (vs:=vs) (p:=p) (by intro o r h;cases h) hi.inj (by intro o r h;cases h)
  ⟨fun b o l h=>⟨(hi.lab b o l h).1,.inl (hi.lab b o l h).2⟩,rfl,hi.f⟩ (by omega) rfl (by omega) (fun _ _ _=>rfl) (fun _ _ _ _=>trivial) (fun c v hv=>by
   obtain⟨u,hu⟩:∃u,us[c]?=some u:=⟨_,eo (by rw[←ha.1];exact (cZ.1 hv).1)⟩
   have:=ha.2 c v u hv hu
   rw[hp c u hu] at this
   exact this)
 obtain⟨s1,s2,s3,s4⟩:=kF (vs:=vs) (id:=1) (c:=0)
 have e1:(enter fn vs).2.tm=(bU 1 0 vs).1++List.replicate (fn.ntmps - vs.length) .und:=rfl
 have e2:(enter fn vs).2.rt=eA iw 1 (bU 1 0 vs).2:=rfl
 have e3:(enter fn vs).2.nx=1+(bU 1 0 vs).2.length:=rfl
 have hle:∀b i l,fJ ρ 1 1 (bU 1 0 vs).2 b=some (i,l)→i≤sR vs:=fun b i l h=>by
  rcases i7 h with⟨h1,h2⟩ | ⟨c,k,j,h1,h2,h3⟩
  ·rcases (hi.lab b i l h1).2 with h | h
   ·omega
   ·exact absurd h h2
  ·obtain⟨r,hr⟩:=kg h2
   have:=(cZ.1 hr).1
   unfold sR
   omega
 refine⟨?_,?_,pl.inj,?_,?_,?_,?_,?_,Wk.refl,fun b hb _=>⟨hb,rfl⟩,fun b l hb=>⟨hb,rfl⟩,fun b l h=>h,rfl,?_,fun i b n _ h1 h2 _=>⟨h1,h2⟩,hle,?_⟩
 ·rw[e1,e2]
  refine⟨by simp[s1,ha.1],fun i v u hv hu=>?_⟩
  by_cases hi:i<vs.length
  ·rw[lT (by rw[s1];exact hi)] at hv
   simp only[Array.getElem?_append,List.size_toArray,←ha.1,hi,if_true,List.getElem?_toArray] at hu
   rw[hp i u hu]
   exact (pl.val i v hv).1
  ·rw[ox (by rw[s1];omega)] at hv
   simp only[Array.getElem?_append,List.size_toArray,←ha.1,hi,if_false,Array.getElem?_replicate] at hu
   rw[List.getElem?_replicate] at hv
   split at hv<;>cases hv
   split at hu<;>cases hu
   exact be.mk1 rfl (.und _)
 ·rw[e2];exact pl.rok
 ·rw[e2];exact pl.rtn
 ·rw[e2];exact pl.lab
 ·rw[e2,e3]
  intro o ho
  unfold eN at ho
  cases hr:eA iw 1 (bU 1 0 vs).2 o with
  | none=>rfl
  | some r=>
   rcases pl.nv o r hr with h | ⟨_,h⟩
   ·cases h
   ·omega
 ·rw[e3];intro o ho;unfold eN at ho;omega
 ·rw[e1,e2,e3]
  intro i v hv
  by_cases hi:i<vs.length
  ·rw[lT (by rw[s1];exact hi)] at hv
   exact (pl.val i v hv).2 _ fun o h1 h2 h3=>by unfold eN at h3;omega
  ·rw[ox (by rw[s1];omega)] at hv
   rw[List.getElem?_replicate] at hv
   split at hv<;>cases hv
   simp[az]
 ·exact⟨hg.1,fun b hb=>pQ (hg.2.1 b hb),hg.2.2⟩
 ·rw[e3];unfold eN;unfold sR at *;intro i h1 h2;omega
end
section
variable {w w' : World} {ρ ρ' : bV} {rt rt' : an}
theorem SW {P:Program}{E:Env}(A:Agree P E){G:Ground}{vs:List V}{us:List Value}(ha:pq w ρ vs us)(hi:Inn w ρ){fn:Func}{own:List Bool}{st:St}{a:Act}(R:gK G (sR vs) w (fJ ρ 1 1 (bU 1 0 vs).2) w' ρ' st a){r:V}{os:List V}(h:lE E fn own (enter fn vs).1 st=some (r,os)) :
  ∃u,(results fn a.tmps).run P w'=.ok u w'∧∃ρe,Aft w ρ w' ρe∧IQ w' ρe r u∧qN w ρ w' ρe own vs us os:=by
 simp only[lE,aR,aU] at h
 obtain⟨rs,hrs,⟨l,rt2⟩,hab,h⟩:=h
 cases h
 obtain⟨p,hrun,hslot⟩:=MX A R.rok R.inj rfl R.tm hrs
 obtain⟨s1,s2,s3,s4⟩:=kF (vs:=vs) (id:=1) (c:=0)
 have hnl:sR vs<st.nx:=Nat.lt_of_not_le fun h=>R.nl (sR vs) (Nat.le_refl _) h
 have hq:st.rt st.nx=none:=R.fresh st.nx (Nat.le_refl _)
 have hq0:st.nx≠0:=by omega
 have hrn:dI (cC (eN st.nx) st.rt) rs:=ew.2 fun v hv=>by
  obtain⟨i,hi⟩:=List.mem_iff_getElem?.1 hv
  obtain⟨hl,hg⟩:=rk hrs
  have:=hg i _ v (eo (by have:=(cZ.1 hi).1;omega)) hi
  revert this
  generalize fn.results.toList[i]'_=rv
  intro this
  cases rv with
  | tmp t=>exact R.tmn t v this
  | cell b t=>
   simp only[mi,aR] at this
   obtain⟨ti,ht,pv,hpv,cs,hc,this⟩:=this
   split at this
   ·exact BN this (yq (NH R.rtn (fun o r hr=>by
     rintro (h | ⟨r',h,h2⟩)
     ·rw[R.fresh o h] at hr;cases hr
     ·rw[hr] at h;cases h;omega) (R.tmn b pv hpv) hc))
   ·cases this
 obtain⟨ρ2,ab,hl,hres⟩:=pO (q:=st.nx) (i0:=0) (g:=p) (N:=cC (eN st.nx) st.rt) R.rok R.inj R.rtn R.lab (fun i j l _ h=>hq0 h) hq0 hq hslot hrn hab
 have hR:(bU 1 0 vs).2.length<st.nx:=hnl
 have hlow:∀{j:Nat} {e:oP},(bU 1 0 vs).2[j]?=some e→1+j≠st.nx:=fun hj=>by
  have:=(cZ.1 hj).1
  omega
 have K:Keep0 (fun _ _=>True) w' ρ2 rt2 w' (iI ρ2 st.nx (bU 1 0 vs).2) iw:=⟨fun b hb _=>⟨zr hb,rfl⟩,fun _ _ _ h _=>absurd trivial h⟩
 refine⟨_,hrun,iI ρ2 st.nx (bU 1 0 vs).2,⟨R.wk,fun b hb hlt=>?_,fun b l hb=>?_,fun b l hb=>?_,?_,fun b o l hb=>?_⟩,?_,?_⟩
 ·have h1:=R.fr b (pQ hb) hlt
  have h2:=ab.keep.k1 b h1.1 (Nat.lt_of_lt_of_le hlt R.wk.size)
  exact⟨zr h2.1,h1.2⟩
 ·have h1:=R.k0 b l (mg hb (by omega))
  have h2:=ab.keep.k0 b l h1.1
  exact⟨OY h2.1,h1.2⟩
 ·rcases pZ hb with⟨_,h1⟩ | ⟨h0,_⟩ | ⟨_,_,_,_,_,h0,_⟩
  ·rcases i7 (R.f0 b l (ab.f0 b l h1)) with⟨h2,_⟩ | ⟨_,_,_,_,_,h3⟩
   ·exact h2
   ·omega
  ·cases h0
  ·cases h0
 ·rintro b b' ⟨n,l⟩ h h'
  rcases pZ h with⟨e,h1⟩ | ⟨e,e0,h1⟩ | ⟨j,c,k,r,t,e,rfl,h1,_,hj⟩<;>rcases pZ h' with⟨e',h1'⟩ | ⟨e',e0',h1'⟩ | ⟨j',c',k',r',t',e',e1',h1',_,hj'⟩<;>(try omega)
  ·exact ab.inj b b' _ h1 h1'
  ·exact ab.inj b b' _ h1 h1'
  ·cases e1'
   have:=s4 j j' _ _ hj hj' rfl rfl
   subst this
   exact ab.inj b b' _ h1 h1'
 ·rcases pZ hb with⟨e,h1⟩ | ⟨e,e0,h1⟩ | ⟨j,c,k,r,t,e,_,h1,_,hj⟩
  ·exact⟨(ab.lab.l b 0 l h1).1,.inl e⟩
  ·exact⟨(ab.lab.l b _ l h1).1,.inr (.inr e)⟩
  ·exact⟨(ab.lab.l b _ t h1).1,.inr (.inl e)⟩
 ·have hcell:∀(c:Nat) v,l[c]?=some v→be w' (iI ρ2 st.nx (bU 1 0 vs).2) iw (fun k=>some (2,[(c,k)])) v (p c)∧nh v∧ma v=false:=by
   intro c v hv
   obtain⟨y,hy⟩:∃y,rs[c]?=some y:=⟨_,eo (by have:=(cZ.1 hv).1;omega)⟩
   obtain⟨⟨g,hg,hs⟩,h2,_,_,h5⟩:=hres c v y hv hy
   refine⟨⟨g,hg,fun k x hx=>?_⟩,h2,We h5⟩
   have:=(hs k x hx).mono0 K (fun l=>(2,l.2)) (fun l=>l.1=st.nx) (fun l i k _=>rfl) (fun l i k h=>h) (fun b l hl hb=>⟨by
    obtain⟨lo,ll⟩:=l
    simp only at hl
    subst hl
    exact OZ hb hq0,rfl⟩) (fun l hl=>by cases hl;rfl) (dA (ce h2 hx))
   simpa using this
  rw[←hl]
  by_cases h1:l.length=1
  ·obtain⟨v,rfl⟩:∃v,l=[v]:=by
    match l,h1 with
    | [v],_=>exact⟨v,rfl⟩
   have hv:=hcell 0 v rfl
   refine⟨p,by simp[vk,hv.2.2],fun c x hx=>?_⟩
   have hc:fN v=[v]:=by cases v<;>first | rfl | (simp[ma] at hv)
   simp only[vk,hc] at hx
   exact hcell c x hx
  ·have ht:vk l=.tup l:=by
    match l,h1 with
    | [],_=>rfl
    | _::_::_,_=>rfl
    | [v],h=>exact absurd rfl h
   rw[ht]
   exact⟨p,by simp[ma,fN,h1],fun c x hx=>hcell c x hx⟩
 ·intro a v u x hv hu hx g hug k y z hy hz hno
  obtain⟨av,hav,rfl⟩:=yh hx
  rw[OV,List.getElem?_map] at hy
  obtain⟨c0,hc0,rfl⟩:=aU.1 hy
  obtain⟨y',hy',_,hlen,hcc⟩:=s3 a v hv
  have:y'=av:=by
   have:(enter fn vs).1=(bU 1 0 vs).1:=rfl
   rw[this] at hav
   rw[hav] at hy'
   cases hy';rfl
  subst this
  have hown:∃j:Nat,(bU 1 0 vs).2[j]?=some (a,k,lM z)∧c0=iY (1+j) z∧¬notOwn z:=by
   rcases hcc k z hz with⟨h1,h2⟩ | ⟨h1,j,h2,h3⟩
   ·rw[h2] at hc0
    cases hc0
    exfalso
    rcases sQ hno with⟨o,nv,s,len,r,rfl,_⟩ | ⟨o,nv,s,e,r,rfl,_⟩
    ·have:=(ha.2 a v u hv hu).2
     have:=ce this hz
     simp[nh] at this
    ·have:=(ha.2 a v u hv hu).2
     have:=ce this hz
     simp[nh] at this
   ·rw[h3] at hc0
    cases hc0
    exact⟨j,by simpa using h2,rfl,h1⟩
  obtain⟨j,hj,rfl,hzo⟩:=hown
  have hjm:=(cZ.1 hj).1
  obtain⟨⟨g',hg',hsl⟩,hnz⟩:=ha.2 a v u hv hu
  have hgk:∀k x,(cells v)[k]?=some x→g k=g' k:=by
   intro k x hx
   rw[hug] at hg'
   unfold fS at hg'
   split at hg'
   ·have hk:=(cZ.1 hx).1
    injection hg' with hg'
    have h1:(dT (cells v).length g)[k]?=some (g k):=jg hk
    rw[hg',jg hk] at h1
    exact (Option.some.inj h1).symm
   ·rename_i hag
    have hk:=(cZ.1 hx).1
    rw[b9 (by simpa using hag)] at hk
    simp at hk
    subst hk
    exact hg'
  have hrz:=hsl k z hz
  rw[←hgk k z hz] at hrz
  generalize g k=uv at hrz ⊢
  have hpos:ri (bU 1 0 vs).2 a k=some j:=by
   obtain⟨j',h'⟩:=xm hj
   obtain⟨r',h''⟩:=kg h'
   rw[h',s4 j' j _ _ h'' hj rfl rfl]
  have hlab:∀b t,ρ b=some (1,(a,k)::t)→fJ ρ 1 1 (bU 1 0 vs).2 b=some (1+j,t):=fun b t hb=>mf hb hpos
  have hrt2:∀r,rt2 (1+j)=some r→∃r0,st.rt (1+j)=some r0∧r.nv=r0.nv:=fun r hr=>by
   obtain⟨r0,h0,h1,_⟩:=ab.nv (1+j) r hr
   exact⟨r0,h0,h1⟩
  have hkeep:∀r b n,rt2 (1+j)=some r→ρ b=some (1,[(a,k)])→kN w b n→ρ2 b=some (1+j,[])∧kN w' b n:=fun r b n hr hb hn=>by
   obtain⟨r0,h0,h1⟩:=hrt2 r hr
   have h2:=R.am (1+j) b n (by omega) (hlab b [] hb) hn (by rw[h0];rfl)
   have hlv:cU rt2 (1+j) r0.nv []:=by simp[cU,cG,cr,hr,bp]
   exact (ab.keep.k2 (1+j) r0.nv [] (by
    rintro (h | ⟨r2,h,h3⟩)
    ·unfold eN at h;omega
    ·rw[h0] at h;cases h;omega) hlv).2 b n h2.1 h2.2
  have hmove:∀{e x:V} {i kk:Nat} {r:Root} {yv:Value},rt2 (1+j)=some r→r.es[i]?=some e→(cells e)[kk]?=some x→RepV w' ρ2 rt2 (some (1+j,[(i,kk)])) x yv→
    RepV w' (iI ρ2 st.nx (bU 1 0 vs).2) iw (some (dP.at (1,[(a,k)]) i kk)) x yv:=by
   intro e x i kk r yv hr he hx hxv
   have:=hxv.mono0 K (fun l=>(1,(a,k)::l.2)) (fun l=>l.1=1+j) (fun l i k _=>rfl) (fun l i k h=>h) (fun b l hl hb=>⟨by
    obtain⟨lo,ll⟩:=l
    simp only at hl
    subst hl
    exact nV hb (hlow hj) hj,rfl⟩) (fun l hl=>by cases hl;rfl) (dA (ce (dj (ab.rtn _ r hr) he) hx))
   simpa[dP.at] using this
  rcases FB z with h | ⟨s,es,rfl⟩ | ⟨e,rfl⟩
  ·exact absurd h hzo
  ·rcases sQ hno with⟨o,nv,s',len,r,heq,hr,hln,hs',hout⟩ | ⟨o,nv,s',e,r,heq,_⟩
   ·simp only[iY,V.hs.injEq] at heq
    obtain⟨rfl,rfl,_,rfl,_,rfl⟩:=heq
    rw[hout]
    refine⟨by simpa[nh] using ab.rtn _ r hr,?_,fun b nb hb hnb=>(nV (hkeep r b nb hr hb hnb).1 (hlow hj) hj)⟩
    ·cases hrz with
     | usl0=>
      have:r.es=[]:=List.eq_nil_of_length_eq_zero (by simpa using hln.symm)
      rw[this]
      exact .usl0 _ _ _
     | usl _ _ _ b A c arr T gg hρ hb hl' hA hcap hs hc h=>
      obtain⟨h1,arr',T',h2,h3⟩:=hkeep r b arr.size hr hρ ⟨arr,T,hb,rfl⟩
      have e1:iI ρ2 st.nx (bU 1 0 vs).2 b=some (1,[(a,k)]):=nV h1 (hlow hj) hj
      rw[show es.length=r.es.length from hln]
      rcases ab.rok (1+j) r hr with h0 | ⟨b',arr2,T2,g2,q1,q2,q3,q4,q5⟩
      ·rw[h0]
       exact .usl _ _ [] b A c arr' T' (fun _ _=>undef) e1 h2 (by simp) hA (by rw[h3];exact hcap) (by simp) (by simp) (by simp)
      ·have:=ab.inj b b' _ h1 q1
       subst this
       rw[h2] at q2
       cases q2
       exact .usl _ _ _ b A c arr' T' g2 e1 h2 (by rw[←hln];exact hl') hA (by rw[h3];exact hcap) (by rw[hs'];exact q3) (by rw[hs'];exact q4) (fun i e k' x he hx=>hmove hr he hx (q5 i e k' x he hx))
   ·simp[iY] at heq
  ·rcases sQ hno with⟨o,nv,s',len,r,heq,_⟩ | ⟨o,nv,s',e2,r,heq,hr,hes,hs',hce,hout⟩
   ·simp[iY] at heq
   ·simp only[iY,V.hp.injEq] at heq
    obtain⟨rfl,rfl,_,rfl,_,_⟩:=heq
    rw[hout]
    cases hrz with
    | uptr _ _ b arr T gg hρ hb hc h=>
     obtain⟨h1,arr',T',h2,h3⟩:=hkeep r b arr.size hr hρ ⟨arr,T,hb,rfl⟩
     have e1:iI ρ2 st.nx (bU 1 0 vs).2 b=some (1,[(a,k)]):=nV h1 (hlow hj) hj
     refine⟨by have:=ab.rtn _ r hr;rw[hes] at this;simpa[nh,nhs] using this,?_,fun b2 nb hb2 hnb=>nV (hkeep r b2 nb hr hb2 hnb).1 (hlow hj) hj⟩
     ·rcases ab.rok (1+j) r hr with h0 | ⟨b',arr2,T2,g2,q1,q2,q3,q4,q5⟩
      ·rw[hes] at h0;cases h0
      ·have:=ab.inj b b' _ h1 q1
       subst this
       rw[h2] at q2
       cases q2
       refine .uptr _ _ b arr' T' (g2 0) e1 h2 (fun kk x hx=>?_) (fun kk x hx=>?_)
       ·have:=q4 0 e2 kk x (by rw[hes];rfl) hx
        simpa using this
       ·exact hmove hr (i:=0) (by rw[hes];rfl) hx (q5 0 e2 kk x (by rw[hes];rfl) hx)
end
section
def Ag (H:Nat→Prop)(rt rt2:an):Prop:=∀o,H o→rt2 o=rt o
def Lk (H:Nat→Prop)(rt rt1 rt2 rt3:an):Prop:=∀o,(H o→rt3 o=rt1 o)∧(¬H o→rt3 o=rt2 o∧rt1 o=rt o)
variable {H : Nat→Prop} {rt rt1 rt2 rt3 : an}
theorem Lk.refl (h:Ag H rt rt2):Lk H rt rt rt2 rt2:=fun o=>⟨h o,fun _=>⟨rfl,rfl⟩⟩
theorem Lk.ag (h:Lk H rt rt1 rt2 rt3):Ag H rt1 rt3:=fun o ho=>(h o).1 ho
theorem Lk.trans {a b:an}(h:Lk H rt rt1 rt2 rt3)(h':Lk H rt1 a rt3 b):Lk H rt a rt2 b:=
 fun o=>⟨fun ho=>(h' o).1 ho,fun ho=>⟨((h' o).2 ho).1.trans ((h o).2 ho).1,((h' o).2 ho).2.trans ((h o).2 ho).2⟩⟩
theorem Lk.upd {o:Nat}{r:Option Root}(ho:H o)(h:Lk H rt rt1 rt2 rt3):Lk H rt (upd rt1 o r) rt2 (upd rt3 o r):=fun x=>by
 by_cases hx:x=o
 ·subst hx
  exact⟨fun _=>by simp[Ln.upd],fun h=>absurd ho h⟩
 ·simp only[Ln.upd,if_neg hx]
  exact h x
theorem mV (h:Ag H rt rt2){o nv:Nat}{p}(ho:H o):cr rt2 o nv p=cr rt o nv p:=by simp[cr,h o ho]
theorem md (h:Ag H rt rt2){o nv:Nat}{p}(ho:H o):cG rt2 o nv p=cG rt o nv p:=by simp[cG,mV h ho]
theorem X8 (h:Ag H rt rt2){v:V}(hv:∀o∈ef v,H o):kb rt2 v=kb rt v:=by
 cases v with
 | hp o nv p s i k=>simp[kb,mV h (hv o (by simp[ef]))]
 | _=>rfl
theorem BC (h:Ag H rt rt2){v:V}(hv:∀o∈ef v,H o):l4 rt2 v=l4 rt v:=by
 cases v with
 | hp o nv p s i k=>simp[l4,md h (hv o (by simp[ef]))]
 | hs o nv p s i k=>simp[l4,md h (hv o (by simp[ef]))]
 | _=>rfl
theorem Ld (h:Ag H rt rt2){v:V}(hv:∀o∈ef v,H o):gH rt2 v=gH rt v:=by
 cases v with
 | hp o nv p s i k=>simp[gH,md h (hv o (by simp[ef]))]
 | hs o nv p s i k=>simp[gH,md h (hv o (by simp[ef]))]
 | _=>rfl
theorem Vx {E:Env}{t t':TypeId}(h:Ag H rt rt2){v:V}(hv:∀o∈ef v,H o):pe E rt2 t t' v=pe E rt t t' v:=by
 have:sS rt2 v=sS rt v:=by
  cases v with
  | hs o nv p s i k=>simp[sS,md h (hv o (by simp[ef]))]
  | _=>rfl
 unfold pe
 split<;>simp_all
theorem iZ {o:Nat}:∀{vs:List V},o∈et vs↔∃v∈vs,o∈ef v
 | []=>by simp[et]
 | v::vs=>by simp[et,@iZ o vs]
theorem HD (h:Ag H rt rt2):∀{vs:List V},(∀o∈et vs,H o)→iK rt2 vs=iK rt vs
 | [],_=>rfl
 | v::vs,hv=>by
  simp only[et,List.mem_append] at hv
  simp only[iK,Ld h fun o ho=>hv o (.inl ho),HD h fun o ho=>hv o (.inr ho)]
theorem HC (h:Ag H rt rt2){v:V}(hv:∀o∈ef v,H o):gX rt2 v=gX rt v:=by
 cases v<;>first | exact Ld h hv | (simp only[gX];rw[HD h (by simpa[ef] using hv)])
theorem KF (h:Ag H rt rt2){v:V}(hv:∀o∈ef v,H o):io rt2 v=io rt v:=by
 cases v with
 | hp o nv p s i k=>simp[io,mV h (hv o (by simp[ef]))]
 | hs o nv p s i k=>simp[io,mV h (hv o (by simp[ef]))]
 | _=>rfl
theorem Hi (h:Ag H rt rt2):∀{vs:List V},(∀o∈et vs,H o)→jJ rt2 vs=jJ rt vs
 | [],_=>rfl
 | v::vs,hv=>by
  simp only[et,List.mem_append] at hv
  simp only[jJ,KF h fun o ho=>hv o (.inl ho),Hi h fun o ho=>hv o (.inr ho)]
theorem Yd (h:Ag H rt rt2){v:V}(hv:∀o∈ef v,H o):nZ rt2 v=nZ rt v:=by
 cases v<;>first | exact KF h hv | (simp only[nZ];rw[Hi h (by simpa[ef] using hv)])
theorem uH (h:Ag H rt rt2):∀{own:List Bool} {vs:List V},(∀o∈et vs,H o)→fk rt2 own vs=fk rt own vs
 | own,[],_=>by cases own<;>rfl
 | [],v::vs,hv=>by
  simp only[et,List.mem_append] at hv
  simp only[fk,HC h fun o ho=>hv o (.inl ho),uH h (own:=[]) fun o ho=>hv o (.inr ho)]
 | true::own,v::vs,hv=>by
  simp only[et,List.mem_append] at hv
  simp only[fk,Yd h fun o ho=>hv o (.inl ho),uH h (own:=own) fun o ho=>hv o (.inr ho)]
 | false::own,v::vs,hv=>by
  simp only[et,List.mem_append] at hv
  simp only[fk,HC h fun o ho=>hv o (.inl ho),uH h (own:=own) fun o ho=>hv o (.inr ho)]
theorem FQ (h:Ag H rt rt2){o:Nat}(ho:H o){r:Root}{p}(e:eX rt o r p=some rt1):∃rt3,eX rt2 o r p=some rt3∧Lk H rt rt1 rt2 rt3:=by
 unfold eX at e ⊢
 split at e
 ·cases e
  exact⟨_,rfl,(Lk.refl h).upd ho⟩
 ·simp only[aR,aU] at e
  obtain⟨y,hy,z,hz,es,hes,rfl⟩:=e
  exact⟨_,by simp[hy,hz,hes],(Lk.refl h).upd ho⟩
theorem mE (h:Ag H rt rt2){v x:V}(hv:∀o∈ef v,H o)(e:cQ rt v=some (x,rt1)):∃rt3,cQ rt2 v=some (x,rt3)∧Lk H rt rt1 rt2 rt3:=by
 have pl:∀{w:V},(if dh w then some (w,rt) else none)=some (x,rt1)→∃rt3,(if dh w then some (w,rt2) else none)=some (x,rt3)∧Lk H rt rt1 rt2 rt3:=by
  intro w e
  split at e
  ·rename_i hp
   cases e
   exact⟨rt2,by simp[hp],Lk.refl h⟩
  ·cases e
 cases v with
 | hp o nv p s i k=>
  have ho:H o:=hv o (by simp[ef])
  simp only[cQ,aR] at e
  obtain⟨r,hr,y,hy,e⟩:=e
  split at e
  ·rename_i z hz
   split at e
   ·rename_i hc
    simp only[aU,Prod.mk.injEq] at e
    obtain⟨rt',ht,rfl,rfl⟩:=e
    obtain⟨rt3,h3,h4⟩:=FQ h ho ht
    exact⟨rt3,by simp[cQ,mV h ho,hr,hy,hz,hc,h3],h4⟩
   ·cases e
  ·cases e
 | hs o nv p s off len=>
  have ho:H o:=hv o (by simp[ef])
  simp only[cQ,aR] at e
  obtain⟨r,hr,y,hy,e⟩:=e
  split at e
  ·rename_i hc
   simp only[aU,Prod.mk.injEq] at e
   obtain⟨rt',ht,rfl,rfl⟩:=e
   obtain⟨rt3,h3,h4⟩:=FQ h ho ht
   refine⟨rt3,?_,h4⟩
   simp only[cQ,mV h ho,hr,hy,cm]
   rw[if_pos hc,h3]
   rfl
  ·cases e
 | _=>(simp only[cQ] at e ⊢;exact pl e)
theorem E7:∀{vs xs:List V} {rt rt1 rt2:an},Ag H rt rt2→(∀o∈et vs,H o)→fM rt vs=some (xs,rt1)→∃rt3,fM rt2 vs=some (xs,rt3)∧Lk H rt rt1 rt2 rt3
 | [],xs,rt,rt1,rt2,h,_,e=>by
  simp only[fM,Option.some.injEq,Prod.mk.injEq] at e
  obtain⟨rfl,rfl⟩:=e
  exact⟨rt2,rfl,Lk.refl h⟩
 | v::vs,xs,rt,rt1,rt2,h,hv,e=>by
  simp only[et,List.mem_append] at hv
  simp only[fM,aR,aU,Prod.mk.injEq] at e
  obtain⟨⟨x,ra⟩,hx,⟨ys,rb⟩,hy,rfl,rfl⟩:=e
  obtain⟨r3,h3,k3⟩:=mE h (fun o ho=>hv o (.inl ho)) hx
  obtain⟨r4,h4,k4⟩:=E7 k3.ag (fun o ho=>hv o (.inr ho)) hy
  exact⟨r4,by simp only[fM,h3,cm];rw[h4];rfl,k3.trans k4⟩
theorem wL (h:Ag H rt rt2){v x:V}(hv:∀o∈ef v,H o)(e:gx rt v=some (x,rt1)):∃rt3,gx rt2 v=some (x,rt3)∧Lk H rt rt1 rt2 rt3:=by
 cases v with
 | agg cs=>
  simp only[gx,aU,Prod.mk.injEq] at e
  obtain⟨⟨xs,r1⟩,hx,rfl,rfl⟩:=e
  obtain⟨r3,h3,k3⟩:=E7 h (by simpa[ef] using hv) hx
  exact⟨r3,by simp[gx,h3],k3⟩
 | _=>exact mE h hv e
theorem vp:∀{vs xs:List V} {rt rt1 rt2:an},Ag H rt rt2→(∀o∈et vs,H o)→d8 rt vs=some (xs,rt1)→∃rt3,d8 rt2 vs=some (xs,rt3)∧Lk H rt rt1 rt2 rt3
 | [],xs,rt,rt1,rt2,h,_,e=>by
  simp only[d8,Option.some.injEq,Prod.mk.injEq] at e
  obtain⟨rfl,rfl⟩:=e
  exact⟨rt2,rfl,Lk.refl h⟩
 | v::vs,xs,rt,rt1,rt2,h,hv,e=>by
  simp only[et,List.mem_append] at hv
  simp only[d8,aR,aU,Prod.mk.injEq] at e
  obtain⟨⟨x,ra⟩,hx,⟨ys,rb⟩,hy,rfl,rfl⟩:=e
  obtain⟨r3,h3,k3⟩:=wL h (fun o ho=>hv o (.inl ho)) hx
  obtain⟨r4,h4,k4⟩:=vp k3.ag (fun o ho=>hv o (.inr ho)) hy
  exact⟨r4,by simp only[d8,h3,cm];rw[h4];rfl,k3.trans k4⟩
theorem PA (h:Ag H rt rt2){v:V}{xs:List V}(hv:∀o∈ef v,H o)(e:fU rt v=some (xs,rt1)):∃rt3,fU rt2 v=some (xs,rt3)∧Lk H rt rt1 rt2 rt3:=by
 cases v with
 | isl n es=>
  simp only[fU,Option.some.injEq,Prod.mk.injEq] at e
  obtain⟨rfl,rfl⟩:=e
  exact⟨rt2,rfl,Lk.refl h⟩
 | hs o nv p s off len=>
  have ho:H o:=hv o (by simp[ef])
  simp only[fU,aR] at e
  obtain⟨y,hy,e⟩:=e
  simp only[fU,md h ho,hy,cm]
  split at e
  ·rename_i hc
   rw[if_pos hc]
   split at e
   ·cases e
   ·rename_i hs
    rw[if_neg hs]
    split at e
    ·rename_i hf
     rw[if_pos hf]
     cases e
     exact⟨rt2,rfl,Lk.refl h⟩
    ·rename_i hf
     rw[if_neg hf]
     split at e
     ·rename_i hq
      rw[if_pos hq]
      cases e
      exact⟨_,rfl,(Lk.refl h).upd ho⟩
     ·cases e
  ·cases e
 | _=>simp[fU] at e
end
section
variable {H : Nat→Prop} {rt rt1 rt2 rt3 : an}
theorem ob {o:Nat}:∀{own:List Bool} {vs:List V},o∈b6 own vs→o∈et vs
 | own,[],h=>by cases own with
  | nil=>simp[b6] at h
  | cons b _=>cases b<;>simp[b6] at h
 | [],v::vs,h=>by
  simp only[b6,List.mem_append] at h
  simp only[et,List.mem_append]
  exact h.imp id ob
 | true::own,v::vs,h=>by
  simp only[b6] at h
  simp only[et,List.mem_append]
  exact .inr (ob h)
 | false::own,v::vs,h=>by
  simp only[b6,List.mem_append] at h
  simp only[et,List.mem_append]
  exact h.imp id ob
theorem NK {v x:V}{k o:Nat}(hx:(cells v)[k]?=some x)(h:ee x=some o):o∈ef v:=by
 have hxi:o∈ef x:=by cases x<;>simp[ee] at h<;>simp[ef,h]
 by_cases ha:ay v=true
 ·cases v<;>simp[ay] at ha
  simp only[ef]
  exact iZ.2 ⟨x,iV hx,hxi⟩
 ·rw[b9 (by simpa using ha)] at hx
  cases k<;>simp at hx
  subst hx
  exact hxi
theorem SK {own:List Bool}{vs:List V}{o:Nat}{x:fY×Nat×Nat}(h:ed (bz 0 own vs) o=some x):o∈et vs:=by
 obtain⟨a,v,k,y,h1,h2,h3,h4,h5⟩:=kE.1 (pG h)
 exact iZ.2 ⟨v,iV h2,NK h3 h4⟩
theorem Vw {E:Env}(h:Ag H rt rt2){id:Nat}(hb:∀o,id≤o→o<id+cE→H o){f:FuncId}{args:List V}{v:V}(hv:∀o∈et args,H o)(e:mH E rt id f args=some (v,rt1)):∃rt3,mH E rt2 id f args=some (v,rt3)∧Lk H rt rt1 rt2 rt3:=by
 simp only[mH,aR] at e
 obtain⟨en,hen,e⟩:=e
 split at e
 ·rename_i hchk
  simp only[aR] at e
  obtain⟨xs,hxs,⟨r,os⟩,hF,e⟩:=e
  simp only at e
  split at e
  ·rename_i hroom
   simp only[Option.some.injEq,Prod.mk.injEq] at e
   obtain⟨rfl,rfl⟩:=e
   refine⟨eA (jG rt2 (bz 0 en.own args) en.own os (if (di r||dR os)=true then b6 en.own args else [])) id (bU id 0 (fN r)).2,?_,?_⟩
   ·simp only[mH,hen,cm]
    rw[if_pos hchk,uH h hv,hxs]
    simp only[cm,hF]
    rw[if_pos hroom]
   ·have hd:∀o,o∈(if (di r||dR os)=true then b6 en.own args else [])→H o:=fun o ho=>by
     split at ho
     ·exact hv o (ob ho)
     ·cases ho
    generalize (if (di r||dR os)=true then b6 en.own args else [])=dead at hd
    intro o
    by_cases hin:id≤o∧o<id+(bU id 0 (fN r)).2.length
    ·have ho:H o:=hb o hin.1 (by omega)
     refine⟨fun _=>?_,fun hn=>absurd ho hn⟩
     simp only[eA]
     rw[if_pos hin,if_pos hin]
    ·simp only[eA]
     rw[if_neg hin,if_neg hin]
     simp only[jG]
     cases hg:ed (bz 0 en.own args) o with
     | some x=>
      have ho:H o:=hv o (SK hg)
      refine⟨fun _=>by simp only[h o ho],fun hn=>absurd ho hn⟩
     | none=>
      by_cases hc:dead.contains o=true
      ·simp only[hc,if_true]
       refine⟨fun _=>trivial,fun hn=>absurd (hd o (by simpa using hc)) hn⟩
      ·simp only[hc]
       exact⟨fun ho=>by simpa using h o ho,fun _=>⟨rfl,rfl⟩⟩
  ·cases e
 ·cases e
theorem Sz {E:Env}(h:Ag H rt rt2){t:TypeId}{x:V}(hx:∀o∈ef x,H o)(e:nS E rt t x=some rt1):∃rt3,nS E rt2 t x=some rt3∧Lk H rt rt1 rt2 rt3:=by
 unfold nS at e ⊢
 split at e
 ·split at e
  ·rename_i hs
   cases e
   exact⟨rt2,by simp[hs],Lk.refl h⟩
  ·cases e
 ·rename_i o nv s off len
  have ho:H o:=hx o (by simp[ef])
  split at e
  ·simp only[aR] at e
   obtain⟨ei,hei,z,hz,r,hr,e⟩:=e
   split at e
   ·rename_i hc
    cases e
    exact⟨_,by simp only[hei,hz,h o ho,hr,cm];rw[if_pos hc],(Lk.refl h).upd ho⟩
   ·cases e
  ·cases e
 ·cases e
theorem OP {E:Env}(h:Ag H rt rt2){id:Nat}(hb:H id){t:TypeId}{d x v:V}(hd:∀o∈ef d,H o)(hx:∀o∈ef x,H o)(e:kA E rt id t d x=some (v,rt1)):∃rt3,kA E rt2 id t d x=some (v,rt3)∧Lk H rt rt1 rt2 rt3:=by
 unfold kA at e ⊢
 split at e
 ·simp only[aR] at e
  obtain⟨ei,hei,⟨es,ra⟩,hes,e⟩:=e
  obtain⟨r3,h3,k3⟩:=PA h hx hes
  simp only[hei,cm,h3]
  split at e
  ·rename_i hall
   rw[if_pos hall]
   split at e
   ·split at e
    ·rename_i hl
     rw[if_pos hl]
     simp only[Option.some.injEq,Prod.mk.injEq] at e
     obtain⟨rfl,rfl⟩:=e
     exact⟨_,rfl,k3.upd hb⟩
    ·cases e
   ·rename_i o nv p s off len
    simp only[aR] at e
    obtain⟨z,hz,e⟩:=e
    have ho:H o:=hd o (by simp[ef])
    simp only[md k3.ag ho,hz,cm]
    split at e
    ·rename_i hc
     rw[if_pos hc]
     simp only[aU,Prod.mk.injEq] at e
     obtain⟨⟨u1,u2⟩,hu,rfl,rfl⟩:=e
     obtain⟨r4,h4,k4⟩:=mE k3.ag hd hu
     exact⟨_,by rw[h4];rfl,(k3.trans k4).upd hb⟩
    ·cases e
   ·cases e
  ·cases e
 ·cases e
theorem Tv {E:Env}(h:Ag H rt rt2){t:TypeId}{p x:V}(hp:∀o∈ef p,H o)(hx:∀o∈ef x,H o)(e:ow E rt t p x=some rt1):∃rt3,ow E rt2 t p x=some rt3∧Lk H rt rt1 rt2 rt3:=by
 unfold ow at e ⊢
 split at e
 ·rename_i o nv path s i k
  simp only[aR] at e
  obtain⟨ti,hti,⟨y,ra⟩,hy,e⟩:=e
  obtain⟨r3,h3,k3⟩:=wL h hx hy
  have ho:H o:=hp o (by simp[ef])
  simp only[hti,cm,h3]
  split at e
  ·rename_i hc
   rw[if_pos hc]
   simp only[aR] at e
   obtain⟨r,hr,z,hz,e⟩:=e
   simp only[mV k3.ag ho,hr,cm,hz]
   split at e
   ·rename_i hs
    rw[if_pos hs]
    simp only[aR] at e
    obtain⟨w,hw,e⟩:=e
    simp only[hw,cm]
    split at e
    ·rename_i hk
     rw[if_pos hk]
     simp only[aU] at e
     obtain⟨es,hes,rfl⟩:=e
     exact⟨_,by rw[hes];rfl,k3.upd ho⟩
    ·cases e
   ·cases e
  ·cases e
 ·cases e
def FA (st:St)(op:Op):List Nat:=(op.operands.toList.filterMap (ev st)).flatMap ef
theorem pJ {st:St}{op:Op}{x:Operand}{v:V}{o:Nat}(hx:x∈op.operands.toList)(hv:ev st x=some v)(ho:o∈ef v):o∈FA st op:=
 List.mem_flatMap.2 ⟨v,List.mem_filterMap.2 ⟨x,hx,hv⟩,ho⟩
def jx:Op→Bool
 | .move _ | .assign _ | .pick .. | .build .. | .binOp .. | .unOp ..  | .makeInterface .. | .makeFunc .. | .field .. | .index .. | .extract .. | .alloc _ | .makeSlice ..=>true
 | _=>false
def gv (st:St)(op:Op):List Nat:=if jx op then [] else FA st op
theorem Ku {st st2:St}:∀{xs:List Operand},(∀x∈xs,ev st2 x=ev st x)→ic st2 xs=ic st xs
 | [],_=>rfl
 | x::xs,h=>by
  simp only[ic,h x (by simp),Ku fun y hy=>h y (List.mem_cons_of_mem _ hy)]
theorem uO {st st2:St}:∀{xs:List (Nat×Operand)},(∀x∈xs,ev st2 x.2=ev st x.2)→fO st2 xs=fO st xs
 | [],_=>rfl
 | (i,x)::xs,h=>by
  simp only[fO,h (i,x) (by simp),uO fun y hy=>h y (List.mem_cons_of_mem _ hy)]
theorem tT {st:St}:∀{xs:List Operand} {vs:List V} {v:V},ic st xs=some vs→v∈vs→∃x∈xs,ev st x=some v
 | [],vs,v,h,hv=>by simp[ic] at h;subst h;cases hv
 | x::xs,vs,v,h,hv=>by
  simp only[ic,aR,aU] at h
  obtain⟨u,hu,us,hus,rfl⟩:=h
  rcases List.mem_cons.1 hv with rfl | hv
  ·exact⟨x,by simp,hu⟩
  ·obtain⟨y,hy,h⟩:=tT hus hv
   exact⟨y,List.mem_cons_of_mem _ hy,h⟩
theorem zt {st:St}:∀{xs:List (Nat×Operand)} {vs:List (Nat×V)} {v:Nat×V},fO st xs=some vs→v∈vs→∃x∈xs,ev st x.2=some v.2
 | [],vs,v,h,hv=>by simp[fO] at h;subst h;cases hv
 | (i,x)::xs,vs,v,h,hv=>by
  simp only[fO,aR,aU] at h
  obtain⟨u,hu,us,hus,rfl⟩:=h
  rcases List.mem_cons.1 hv with rfl | hv
  ·exact⟨(i,x),by simp,hu⟩
  ·obtain⟨y,hy,h⟩:=zt hus hv
   exact⟨y,List.mem_cons_of_mem _ hy,h⟩
theorem Kt {st st2:St}{x:Option Operand}(h:∀y,x=some y→ev st2 y=ev st y):nW st2 x=nW st x:=by
 cases x with
 | none=>rfl
 | some y=>simp only[nW,h y rfl]
theorem FG {sz:Nat}{a:Bool}:∀{ps:List (Nat×V)} {es es':List V} {v:V},jO sz a es ps=some es'→v∈es'→v∈es∨∃p∈ps,p.2=v
 | [],es,es',v,h,hv=>by simp[jO] at h;subst h;exact .inl hv
 | (i,x)::ps,es,es',v,h,hv=>by
  simp only[jO] at h
  split at h
  ·rcases FG h hv with h1 | ⟨p,hp,rfl⟩
   ·rcases List.mem_or_eq_of_mem_set h1 with h2 | h2
    ·exact .inl h2
    ·exact .inr ⟨(i,x),by simp,h2.symm⟩
   ·exact .inr ⟨p,List.mem_cons_of_mem _ hp,rfl⟩
  ·cases h
end
section
variable {H : Nat→Prop} {rt rt1 rt2 rt3 : an}
theorem SM {c:Value}{v:V}(h:gS c=some v):ef v=[]:=by
 have one:∀{c:Value} {v:V},jN c=some v→ef v=[]:=by
  intro c v h
  unfold jN at h
  split at h<;>cases h<;>rfl
 unfold gS at h
 split at h
 ·simp only[aU] at h
  obtain⟨vs,hvs,rfl⟩:=h
  simp only[ef]
  rename_i cs
  generalize cs.toList=l at hvs
  induction l generalizing vs with
  | nil=>simp[hJ] at hvs;subst hvs;rfl
  | cons x l ih=>
   simp only[hJ,aR,aU] at hvs
   obtain⟨y,hy,ys,hys,rfl⟩:=hvs
   simp[et,one hy,ih ys hys]
 ·exact one h
theorem Tb {E : Env}{id : Nat}{st st2 : St}{op : Op}{v : V}(hb : ∀ o, id ≤ o → o < id + cE → H o)(ho : ∀ o ∈ gv st op, H o)(hx : ∀ x ∈ op.operands.toList, ev st2 x = ev st x)(h : Ag H st.rt st2.rt)(e : bu E id st op=some (v,rt1)) : ∃ rt3,bu E id st2 op=some (v,rt3) ∧ Lk H st.rt rt1 st2.rt rt3:=by
  have ee : H id:=hb id (Nat.le_refl _) (by unfold cE; omega)
  have pure : st.rt=rt1→bu E id st2 op=some (v,st2.rt)→∃ rt3,bu E id st2 op=some (v,rt3) ∧ Lk H st.rt rt1 st2.rt rt3:=by
    rintro rfl h2
    exact ⟨_,h2,Lk.refl h⟩
  have hv : jx op=false→∀ {x : Operand} {u : V},x ∈ op.operands.toList→ev st x=some u→∀ o ∈ ef u,H o:=fun hn _ _ hm hu o hi=>ho o (by unfold gv; rw [hn]; exact pJ hm hu hi)
  cases op with
  | move x =>
    simp only [bu,aU,Prod.mk.injEq] at e
    obtain ⟨u,hu,rfl,rfl⟩:=e
    exact pure rfl (by simp [bu,hx x (by simp [Op.operands]),hu])
  | assign x =>
    simp only [bu,aU,Prod.mk.injEq] at e
    obtain ⟨u,hu,rfl,rfl⟩:=e
    exact pure rfl (by simp [bu,hx x (by simp [Op.operands]),hu])
  | pick c a b =>
    simp only [bu,aU,aR,Prod.mk.injEq] at e
    obtain ⟨u,hu,y,hy,rfl,rfl⟩:=e
    refine pure rfl ?_
    simp only [bu,hx c (by simp [Op.operands]),hx a (by simp [Op.operands]),hx b (by simp [Op.operands]),hu,cm]
    rw [hy]; rfl
  | alloc t =>
    simp only [bu,aU,aR,Prod.mk.injEq] at e
    obtain ⟨ti,hti,z,hz,rfl,rfl⟩:=e
    exact ⟨_,by simp [bu,hti,hz],(Lk.refl h).upd ee⟩
  | box t x =>
    simp only [bu,aU,aR,Prod.mk.injEq] at e
    obtain ⟨u,hu,⟨y,ra⟩,hy,rfl,rfl⟩:=e
    obtain ⟨r3,h3,k3⟩:=wL h (hv rfl (by simp [Op.operands]) hu) hy
    exact ⟨_,by simp [bu,hx x (by simp [Op.operands]),hu,h3],k3.upd ee⟩
  | build t ps =>
    simp only [bu,aU,aR,Prod.mk.injEq] at e
    obtain ⟨u,hu,y,hy,rfl,rfl⟩:=e
    exact pure rfl (by simp [bu,uO (xs:=ps.toList) fun x hm=>hx x.2 (by simp [Op.operands]; exact ⟨x.1,by simpa using hm⟩),hu,hy])
  | buildSlice t n ps =>
    simp only [bu,aR] at e
    obtain ⟨pv,hpv,e⟩:=e
    have hpv2 : fO st2 ps.toList=some pv:=by rw [uO (xs:=ps.toList) fun x hm=>hx x.2 (by simp [Op.operands]; exact ⟨x.1,by simpa using hm⟩),hpv]
    split at e
    · rename_i el sz bt zv htt
      simp only [aR] at e
      obtain ⟨ei,hei,z,hz,e⟩:=e
      split at e
      · rename_i hc
        simp only [aR,aU,Prod.mk.injEq] at e
        obtain ⟨es,hes,⟨ys,ra⟩,hys,rfl,rfl⟩:=e
        obtain ⟨r3,h3,k3⟩:=vp h (fun o hm=>by
          obtain ⟨x,hxm,hi⟩:=iZ.1 hm
          rcases FG hes hxm with h1 | ⟨p,hp,rfl⟩
          · rw [List.eq_of_mem_replicate h1,SM hz] at hi
            cases hi
          · obtain ⟨q,hq,hqe⟩:=zt hpv hp
            exact hv rfl (x:=q.2) (by simp [Op.operands]; exact ⟨q.1,by simpa using hq⟩) hqe o hi) hys
        refine ⟨_,?_,k3.upd ee⟩
        simp only [bu,hpv2,cm,htt,hei,hz]
        rw [if_pos hc,hes]
        simp only [cm,h3]
        rfl
      · cases e
    · cases e
  | load t p =>
    simp only [bu,aR] at e
    obtain ⟨ti,hti,pv,hp,cs,hc,e⟩:=e
    split at e
    · rename_i hcc
      simp only [aU,Prod.mk.injEq] at e
      obtain ⟨y,hy,rfl,rfl⟩:=e
      refine pure rfl ?_
      simp only [bu,hti,cm,hx p (by simp [Op.operands]),hp,X8 h (hv rfl (by simp [Op.operands]) hp),hc]
      rw [if_pos hcc,hy]; rfl
    · cases e
  | store t p x =>
    simp only [bu,aR,aU,Prod.mk.injEq] at e
    obtain ⟨pv,hp,xv,hxv,ra,hs,rfl,rfl⟩:=e
    obtain ⟨r3,h3,k3⟩:=Tv h (hv rfl (by simp [Op.operands]) hp) (hv rfl (by simp [Op.operands]) hxv) hs
    exact ⟨r3,by simp [bu,hx p (by simp [Op.operands]),hx x (by simp [Op.operands]),hp,hxv,h3],k3⟩
  | nilCheck x =>
    simp only [bu,aR] at e
    obtain ⟨u,hu,e⟩:=e
    have hi:=hv rfl (x:=x) (by simp [Op.operands]) hu
    split at e
    · rename_i o nv p s i k
      split at e
      · rename_i hc
        cases e
        refine pure rfl ?_
        simp only [bu,hx x (by simp [Op.operands]),hu,cm,md h (hi o (by simp [ef]))]
        rw [if_pos hc]
      · cases e
    · cases e
      exact pure rfl (by simp [bu,hx x (by simp [Op.operands]),hu])
    · cases e
  | binOp op t x y t' =>
    simp only [bu,aR,aU,Prod.mk.injEq] at e
    obtain ⟨a,ha,b,hb',u,hu,rfl,rfl⟩:=e
    exact pure rfl (by simp [bu,hx x (by simp [Op.operands]),hx y (by simp [Op.operands]),ha,hb',hu])
  | unOp op t x =>
    simp only [bu,aR,aU,Prod.mk.injEq] at e
    obtain ⟨a,ha,u,hu,rfl,rfl⟩:=e
    exact pure rfl (by simp [bu,hx x (by simp [Op.operands]),ha,hu])
  | convert s d x =>
    simp only [bu,aR,aU,Prod.mk.injEq] at e
    obtain ⟨a,ha,u,hu,rfl,rfl⟩:=e
    refine pure rfl ?_
    have : pe E st2.rt s d a=pe E st.rt s d a:=Vx h fun o ho=>hv rfl (by simp [Op.operands]) ha o ho
    simp [bu,hx x (by simp [Op.operands]),ha,this,hu]
  | makeInterface t x =>
    simp only [bu,aR] at e
    obtain ⟨a,ha,e⟩:=e
    split at e
    · rename_i hc
      cases hd : E.desc t with
      | none=>simp [hd] at e
      | some d =>
        cases d <;> simp only [hd] at e <;> first
          | (cases e; done)
          | (simp only [Option.some.injEq, Prod.mk.injEq] at e
             obtain ⟨rfl,rfl⟩:=e
             refine pure rfl ?_
             simp only [bu,hx x (by simp [Op.operands]),ha,cm,hd]
             rw [if_pos hc])
    · cases e
  | makeFunc fn first caps =>
    cases fn with
    | func f =>
      simp only [bu] at e
      split at e
      · rename_i h0
        simp only [aR] at e
        obtain ⟨cs,hcs,e⟩:=e
        split at e
        · rename_i hc
          cases e
          refine pure rfl ?_
          simp only [bu]
          rw [if_pos h0,Ku fun x hm=>hx x (by simp [Op.operands]; exact .inr (by simpa using hm)),hcs]
          simp only [cm]
          rw [if_pos hc]
        · cases e
      · cases e
    | _=>simp [bu] at e
  | makeSlice t l c =>
    simp only [bu,aR] at e
    obtain ⟨lv,hl,cv,hc,e⟩:=e
    split at e
    · rename_i el sz bt zv l' c' htt
      simp only [aR] at e
      obtain ⟨ei,hei,z,hz,e⟩:=e
      split at e
      · rename_i hcc
        cases e
        refine ⟨_,?_,(Lk.refl h).upd ee⟩
        simp only [bu,hx l (by simp [Op.operands]),hx c (by simp [Op.operands]),hl,hc,cm,htt,hei,hz]
        rw [if_pos hcc]
      · cases e
    · cases e
  | slice t x lo hi m =>
    cases m with
    | some m=>simp [bu] at e
    | none =>
      simp only [bu,aR] at e
      obtain ⟨xv,hxv,l,hl,r,hr,e⟩:=e
      split at e
      · rename_i hal
        simp only [aU,Prod.mk.injEq] at e
        obtain ⟨u,hu,rfl,rfl⟩:=e
        refine pure rfl ?_
        have h1 : jm E st2.rt t xv l r=jm E st.rt t xv l r:=rfl
        simp only [bu,hx x (by simp [Op.operands]),hxv,cm,Kt (x:=lo) (fun y hy=>hx y (by subst hy; simp [Op.operands])),Kt (x:=hi) (fun y hy=>hx y (by subst hy; simp [Op.operands])),hl,hr,BC h (hv rfl (x:=x) (by simp [Op.operands]) hxv)]
        rw [if_pos hal,h1,hu]; rfl
      · cases e
  | fieldAddr s x f =>
    simp only [bu,aR] at e
    obtain ⟨xv,hxv,fl,hf,e⟩:=e
    have hi:=hv rfl (x:=x) (by simp [Op.operands]) hxv
    split at e
    · split at e
      · rename_i hc
        cases e
        refine pure rfl ?_
        simp only [bu,hx x (by simp [Op.operands]),hxv,hf,cm]
        rw [if_pos hc]
      · cases e
    · rename_i o nv p sz i k
      split at e
      · rename_i hc
        cases e
        refine pure rfl ?_
        simp only [bu,hx x (by simp [Op.operands]),hxv,hf,cm,md h (hi o (by simp [ef]))]
        rw [if_pos hc]
      · cases e
    · cases e
  | field s x f =>
    simp only [bu,aR] at e
    obtain ⟨xv,hxv,fl,hf,e⟩:=e
    split at e
    · split at e
      · rename_i hc
        simp only [aU,Prod.mk.injEq] at e
        obtain ⟨u,hu,rfl,rfl⟩:=e
        refine pure rfl ?_
        simp only [bu,hx x (by simp [Op.operands]),hxv,hf,cm]
        rw [if_pos hc,hu]; rfl
      · cases e
    · cases e
  | indexAddr t x i =>
    simp only [bu,aR] at e
    obtain ⟨xv,hxv,iv,hiv,e⟩:=e
    split at e
    · split at e
      · rename_i hal
        simp only [aU,Prod.mk.injEq] at e
        obtain ⟨u,hu,rfl,rfl⟩:=e
        refine pure rfl ?_
        simp only [bu,hx x (by simp [Op.operands]),hx i (by simp [Op.operands]),hxv,hiv,cm,BC h (hv rfl (x:=x) (by simp [Op.operands]) hxv)]
        rw [if_pos hal,hu]; rfl
      · cases e
    · cases e
  | index t x i =>
    simp only [bu,aR] at e
    obtain ⟨xv,hxv,iv,hiv,e⟩:=e
    split at e
    · simp only [aU,Prod.mk.injEq] at e
      obtain ⟨u,hu,rfl,rfl⟩:=e
      exact pure rfl (by simp [bu,hx x (by simp [Op.operands]),hx i (by simp [Op.operands]),hxv,hiv,hu])
    · cases e
  | extract x i =>
    simp only [bu,aR] at e
    obtain ⟨xv,hxv,e⟩:=e
    split at e
    · simp only [aU,Prod.mk.injEq] at e
      obtain ⟨u,hu,rfl,rfl⟩:=e
      exact pure rfl (by simp [bu,hx x (by simp [Op.operands]),hxv,hu])
    · cases e
  | call c =>
    simp only [bu,lA,aR] at e
    obtain ⟨args,hargs,e⟩:=e
    have hargs2 : ic st2 c.args.toList=some args:=by rw [Ku fun x hm=>hx x (by simp [Op.operands,Call.operands]; exact .inr (by simpa using hm)),hargs]
    have hai : ∀ o ∈ et args,H o:=fun o hm=>by
      obtain ⟨u,hu,hi⟩:=iZ.1 hm
      obtain ⟨x,hxm,hxe⟩:=tT hargs hu
      exact hv rfl (by simp [Op.operands,Call.operands]; exact .inr (by simpa using hxm)) hxe o hi
    split at e
    · rename_i f hcal
      simp only [aR] at e
      obtain ⟨fv,hf,e⟩:=e
      have hfm : f ∈ (Op.call c).operands.toList:=by simp [Op.operands,Call.operands,hcal]
      have hfi:=hv rfl hfm hf
      split at e
      · rename_i fid caps
        obtain ⟨r3,h3,k3⟩:=Vw h hb (args:=args ++ caps) (fun o hm=>by
          obtain ⟨u,hu,hi⟩:=iZ.1 hm
          rcases List.mem_append.1 hu with h1 | h1
          · exact hai o (iZ.2 ⟨u,h1,hi⟩)
          · exact hfi o (by simp only [ef]; exact iZ.2 ⟨u,h1,hi⟩)) e
        refine ⟨r3,?_,k3⟩
        simp only [bu,lA,hargs2,cm,hcal,hx f hfm,hf]
        exact h3
      · cases e
    · rename_i b hcal
      simp only [bu,lA,hargs2,cm,hcal]
      unfold fb at e ⊢
      split at e
      · split at e
        · rename_i x hal
          simp only [aR,aU,Prod.mk.injEq] at e
          obtain ⟨t,ht,u,hu,rfl,rfl⟩:=e
          refine ⟨st2.rt,?_,Lk.refl h⟩
          rw [BC h fun o hm=>hai o (by simpa [et] using hm),if_pos hal,ht]
          simp [hu]
        · cases e
      · simp only [aR] at e
        obtain ⟨t,ht,t1,ht1,e⟩:=e
        split at e
        · rename_i hs
          obtain ⟨r3,h3,k3⟩:=OP h ee (fun o hm=>hai o (by simp [et,hm])) (fun o hm=>hai o (by simp [et,hm])) e
          refine ⟨r3,?_,k3⟩
          simp only [ht,ht1,cm]
          rw [if_pos hs,h3]
        · cases e
      · simp only [aR,aU,Prod.mk.injEq] at e
        obtain ⟨t,ht,r1,hr1,rfl,rfl⟩:=e
        obtain ⟨r3,h3,k3⟩:=Sz h (fun o hm=>hai o (by simp [et,hm])) hr1
        exact ⟨r3,by simp [ht,h3],k3⟩
      · simp only [aU,Prod.mk.injEq] at e
        obtain ⟨u,hu,rfl,rfl⟩:=e
        exact ⟨st2.rt,by simp [hu],Lk.refl h⟩
      · simp only [aU,Prod.mk.injEq] at e
        obtain ⟨u,hu,rfl,rfl⟩:=e
        exact ⟨st2.rt,by simp [hu],Lk.refl h⟩
      · cases e
    · cases e
  | _=>simp [bu] at e
end
section
def xS (E:Env)(rt:an)(f:FuncId)(args:List V):List Nat:=
 match E.fn f with
 | some e=>(bz 0 e.own args).map (·.1)++(match (fk rt e.own args).bind e.F with
  | some r=>if di r.1||dR r.2 then b6 e.own args else []
  | none=>[])
 | none=>[]
def oS (rt:an)(d x:V):List Nat:=
 ef d++(match x with
 | .hs o nv p _ off len=>(match cG rt o nv p with
  | some y=>if ((y.2.drop off).take len).all ka then [] else [o]
  | none=>[o])
 | _=>[])
def iJ (E:Env)(st:St)(op:Op):List Nat:=
 match op with
 | .box _ _ | .buildSlice .. | .store ..=>FA st op
 | .call c=>(match c.callee with
  | .value f=>(match ev st f,ic st c.args.toList with
   | some (.fn g caps),some args=>xS E st.rt g (args++caps)
   | _,_=>[])
  | .builtin .clear=>FA st op
  | .builtin .append=>(match ic st c.args.toList with
   | some [d,x]=>oS st.rt d x
   | _=>[])
  | _=>[])
 | _=>[]
theorem S0 {g:List nO}{o:Nat}{x:fY×Nat×Nat}(h:ed g o=some x):o∈g.map (·.1):=List.mem_map.2 ⟨(o,x),pG h,rfl⟩
theorem X2 {E:Env}{rt rt1:an}{id:Nat}{f:FuncId}{args:List V}{v:V}(e:mH E rt id f args=some (v,rt1)){o:Nat}(h:o∉xS E rt f args)(hb:¬(id≤o∧o<id+cE)):rt1 o=rt o:=by
 simp only[mH,aR] at e
 obtain⟨en,hen,e⟩:=e
 split at e
 ·simp only[aR] at e
  obtain⟨xs,hxs,⟨r,os⟩,hF,e⟩:=e
  simp only at e
  split at e
  ·rename_i hroom
   simp only[Option.some.injEq,Prod.mk.injEq] at e
   obtain⟨_,rfl⟩:=e
   simp only[xS,hen,hxs,cm,hF,List.mem_append,not_or] at h
   simp only[eA]
   rw[if_neg (by omega)]
   simp only[jG]
   cases hg:ed (bz 0 en.own args) o with
   | some x=>exact absurd (S0 hg) h.1
   | none=>
    have:¬(if (di r||dR os)=true then b6 en.own args else []).contains o=true:=by
     simpa using h.2
    simp only
    rw[if_neg this]
  ·cases e
 ·cases e
theorem Tz {rt rt1:an}{x:V}{es:List V}(e:fU rt x=some (es,rt1)){o:Nat}(h:o∉(match x with
 | .hs o nv p _ off len=>(match cG rt o nv p with
  | some y=>if ((y.2.drop off).take len).all ka then [] else [o]
  | none=>[o])
 | _=>[])):rt1 o=rt o:=by
 cases x with
 | isl n es=>simp only[fU,Option.some.injEq,Prod.mk.injEq] at e;rw[e.2]
 | hs o' nv p s off len=>
  simp only[fU,aR] at e
  obtain⟨y,hy,e⟩:=e
  simp only[hy] at h
  split at e
  ·split at e
   ·cases e
   ·split at e
    ·cases e;rfl
    ·rename_i hf
     rw[if_neg hf] at h
     split at e
     ·cases e
      have:o≠o':=by simpa using h
      simp[upd,this]
     ·cases e
  ·cases e
 | _=>simp[fU] at e
theorem Kf {rt rt1:an}{d u:V}(e:cQ rt d=some (u,rt1)){o:Nat}(h:o∉ef d):rt1 o=rt o:=by
 obtain⟨rt3,h3,k⟩:=mE (H:=fun x=>x∈ef d) (rt2:=rt) (fun _ _=>rfl) (fun _ h=>h) e
 exact ((k o).2 h).2
theorem W9 {E:Env}{id:Nat}{st:St}{op:Op}{v:V}{rt1:an}(e:bu E id st op=some (v,rt1)){o:Nat}(h:o∉iJ E st op)(hb:¬(id≤o∧o<id+cE)):rt1 o=st.rt o:=by
 have all:o∉gv st op→rt1 o=st.rt o:=fun hn=>by
  obtain⟨rt3,h3,k⟩:=Tb (H:=fun x=>x∈gv st op∨(id≤x∧x<id+cE)) (st2:=st) (fun o h1 h2=>.inr ⟨h1,h2⟩) (fun o h=>.inl h) (fun _ _=>rfl) (fun _ _=>rfl) e
  exact ((k o).2 (by rintro (h | h);exact hn h;exact hb h)).2
 cases op with
 | box t x=>exact all (by simpa[gv,jx,iJ] using h)
 | buildSlice t n ps=>exact all (by simpa[gv,jx,iJ] using h)
 | store t p x=>exact all (by simpa[gv,jx,iJ] using h)
 | call c=>
  simp only[bu,lA,aR] at e
  obtain⟨args,hargs,e⟩:=e
  split at e
  ·rename_i f hcal
   simp only[aR] at e
   obtain⟨fv,hf,e⟩:=e
   split at e
   ·rename_i fid caps
    simp only[iJ,hcal,hf,hargs] at h
    exact X2 e h hb
   ·cases e
  ·rename_i b hcal
   unfold fb at e
   split at e
   ·split at e
    ·simp only[aR,aU,Prod.mk.injEq] at e
     obtain⟨t,ht,u,hu,_,rfl⟩:=e
     rfl
    ·cases e
   ·simp only[aR] at e
    obtain⟨t,ht,t1,ht1,e⟩:=e
    split at e
    ·rename_i d x _
     simp only[iJ,hcal,hargs,oS,List.mem_append,not_or] at h
     unfold kA at e
     split at e
     ·simp only[aR] at e
      obtain⟨ei,hei,⟨es,ra⟩,hes,e⟩:=e
      have h1:=Tz hes h.2
      have ee:o≠id:=by rintro rfl;exact hb ⟨Nat.le_refl _,by unfold cE;omega⟩
      split at e
      ·split at e
       ·split at e
        ·simp only[Option.some.injEq,Prod.mk.injEq] at e
         obtain⟨_,rfl⟩:=e
         simpa[upd,ee] using h1
        ·cases e
       ·simp only[aR] at e
        obtain⟨z,hz,e⟩:=e
        split at e
        ·simp only[aU,Prod.mk.injEq] at e
         obtain⟨⟨u1,u2⟩,hu,_,rfl⟩:=e
         have h2:=Kf hu h.1
         simp only[upd,if_neg ee]
         rw[h2,h1]
        ·cases e
       ·cases e
      ·cases e
     ·cases e
    ·cases e
   ·exact all (by simpa[gv,jx,iJ,hcal] using h)
   ·simp only[aU,Prod.mk.injEq] at e
    obtain⟨u,hu,_,rfl⟩:=e
    rfl
   ·simp only[aU,Prod.mk.injEq] at e
    obtain⟨u,hu,_,rfl⟩:=e
    rfl
   ·cases e
  ·cases e
 | alloc t=>
  simp only[bu,aU,aR,Prod.mk.injEq] at e
  obtain⟨ti,hti,z,hz,_,rfl⟩:=e
  have ee:o≠id:=by rintro rfl;exact hb ⟨Nat.le_refl _,by unfold cE;omega⟩
  simp[upd,ee]
 | makeSlice t l c=>exact all (by simp[gv,jx])
 | nilCheck x=>
  simp only[bu,aR] at e
  obtain⟨u,hu,e⟩:=e
  split at e
  ·split at e<;>cases e;rfl
  ·cases e;rfl
  ·cases e
 | load t p=>
  simp only[bu,aR] at e
  obtain⟨ti,hti,pv,hp,cs,hc,e⟩:=e
  split at e
  ·simp only[aU,Prod.mk.injEq] at e
   obtain⟨y,hy,_,rfl⟩:=e
   rfl
  ·cases e
 | slice t x lo hi m=>
  cases m with
  | some m=>simp[bu] at e
  | none=>
   simp only[bu,aR] at e
   obtain⟨xv,hxv,l,hl,r,hr,e⟩:=e
   split at e
   ·simp only[aU,Prod.mk.injEq] at e
    obtain⟨u,hu,_,rfl⟩:=e
    rfl
   ·cases e
 | fieldAddr s x f=>
  simp only[bu,aR] at e
  obtain⟨xv,hxv,fl,hf,e⟩:=e
  split at e
  ·split at e<;>cases e;rfl
  ·split at e<;>cases e;rfl
  ·cases e
 | indexAddr t x i=>
  simp only[bu,aR] at e
  obtain⟨xv,hxv,iv,hiv,e⟩:=e
  split at e
  ·split at e
   ·simp only[aU,Prod.mk.injEq] at e
    obtain⟨u,hu,_,rfl⟩:=e
    rfl
   ·cases e
  ·cases e
 | makeInterface t x=>exact all (by simp[gv,jx])
 | makeFunc a b c=>exact all (by simp[gv,jx])
 | move x=>exact all (by simp[gv,jx])
 | assign x=>exact all (by simp[gv,jx])
 | pick a b c=>exact all (by simp[gv,jx])
 | build a b=>exact all (by simp[gv,jx])
 | binOp a b c d e=>exact all (by simp[gv,jx])
 | unOp a b c=>exact all (by simp[gv,jx])
 | convert a b c=>
  simp only[bu,aR,aU,Prod.mk.injEq] at e
  obtain⟨y,hy,u,hu,_,rfl⟩:=e
  rfl
 | field a b c=>exact all (by simp[gv,jx])
 | index a b c=>exact all (by simp[gv,jx])
 | extract a b=>exact all (by simp[gv,jx])
 | _=>simp[bu] at e
end
section
theorem MI {rt:an}{d x:V}{o:Nat}(h:o∈oS rt d x):o∈ef d∨o∈ef x:=by
 simp only[oS,List.mem_append] at h
 refine h.imp id fun h=>?_
 split at h
 ·split at h
  ·split at h
   ·cases h
   ·simpa[ef] using h
  ·simpa[ef] using h
 ·cases h
theorem Sw {E:Env}{rt:an}{f:FuncId}{args:List V}{o:Nat}(h:o∈xS E rt f args):o∈et args:=by
 unfold xS at h
 split at h
 ·simp only[List.mem_append] at h
  rcases h with h | h
  ·obtain⟨⟨o',p,a,k⟩,hg,rfl⟩:=List.mem_map.1 h
   obtain⟨a,v,k,y,h1,h2,h3,h4,h5⟩:=kE.1 hg
   exact iZ.2 ⟨v,iV h2,NK h3 h4⟩
  ·split at h
   ·split at h
    ·exact ob h
    ·cases h
   ·cases h
 ·cases h
theorem Yn {E:Env}{st:St}{op:Op}{o:Nat}(h:o∈iJ E st op):o∈gv st op:=by
 cases op with
 | box t x=>simpa[gv,jx,iJ] using h
 | buildSlice t n ps=>simpa[gv,jx,iJ] using h
 | store t p x=>simpa[gv,jx,iJ] using h
 | call c=>
  have e:gv st (.call c)=FA st (.call c):=rfl
  rw[e]
  simp only[iJ] at h
  split at h
  ·rename_i f hcal
   split at h
   ·rename_i g caps args hf hargs
    obtain⟨v,hv,ho⟩:=iZ.1 (Sw h)
    rcases List.mem_append.1 hv with h1 | h1
    ·obtain⟨x,hx,hxe⟩:=tT hargs h1
     exact pJ (by simp[Op.operands,Call.operands];exact .inr (by simpa using hx)) hxe ho
    ·exact pJ (x:=f) (by simp[Op.operands,Call.operands,hcal]) hf (by simp only[ef];exact iZ.2 ⟨v,h1,ho⟩)
   ·cases h
  ·exact h
  ·split at h
   ·rename_i d x hargs
    rcases MI h with h1 | h1
    ·obtain⟨y,hy,hye⟩:=tT hargs (v:=d) (by simp)
     exact pJ (by simp[Op.operands,Call.operands];exact .inr (by simpa using hy)) hye h1
    ·obtain⟨y,hy,hye⟩:=tT hargs (v:=x) (by simp)
     exact pJ (by simp[Op.operands,Call.operands];exact .inr (by simpa using hy)) hye h1
   ·cases h
  ·cases h
 | _=>simp[iJ] at h
def BO (e:Edge):Bool:=
 match e.ground with
 | .textOnly _=>false
 | .gcOnly _=>false
 | _=>true
def pre (o:Oper):List Nat:=(o.after.toList.filter BO).map (·.on)
def Pj (ms:List Nat):List Nat→Nat→Nat
 | [],m=>m
 | j::l,m=>Pj ms l (m ||| (2 ^ j) ||| ms.getD j 0)
def S1 (ms:List Nat)(o:Oper):Nat:=Pj ms (pre o) 0
def aat (op:Op):List Nat:=op.operands.toList.filterMap fun
 | .tmp t=>some t
 | _=>none
def BK (ops:Array Oper)(o:Oper):List Nat:=
 match o.guard with
 | some (j,_)=>((ops[j]?).bind (·.dst)).toList
 | none=>[]
def uY (ops:Array Oper)(o:Oper):List Nat:=aat o.op++BK ops o
def tS (l:List Nat):Option Nat→Bool
 | some d=>!l.contains d
 | none=>true
def Ki:Option Nat→Option Nat→Bool
 | some a,some b=>a != b
 | _,_=>true
def kw (ops:Array Oper)(ms:List Nat):Bool:=
 (List.range ops.size).all fun i=>match ops[i]? with
  | none=>false
  | some oi=>(pre oi).all (fun j=>decide (j<i))&&(ms.getD i 0==S1 ms oi)&&(List.range i).all fun j=>match ops[j]? with
   | none=>false
   | some oj=>(ms.getD i 0).testBit j||(tS (uY ops oi) oj.dst&&tS (uY ops oj) oi.dst&&Ki oi.dst oj.dst)
theorem Hn {ms:List Nat}{j:Nat}:∀{l:List Nat} {m:Nat},(Pj ms l m).testBit j=true→m.testBit j=true∨∃k∈l,j=k∨(ms.getD k 0).testBit j=true
 | [],m,h=>.inl h
 | k::l,m,h=>by
  rcases Hn (l:=l) h with h1 | ⟨k',hk,h1⟩
  ·simp only[Nat.testBit_or,Bool.or_eq_true,Nat.testBit_two_pow,decide_eq_true_eq] at h1
   rcases h1 with (h1 | h1) | h1
   ·exact .inl h1
   ·exact .inr ⟨k,by simp,.inl h1.symm⟩
   ·exact .inr ⟨k,by simp,.inr h1⟩
  ·exact .inr ⟨k',List.mem_cons_of_mem _ hk,h1⟩
structure StOk (ops:Array Oper) (ms:List Nat) (i:Nat) (oi:Oper):Prop where
 pre:∀j∈pre oi,j<i
 mask:ms.getD i 0=S1 ms oi
 pair:∀j,j<i→∀oj,ops[j]?=some oj→(ms.getD i 0).testBit j=true∨(tS (uY ops oi) oj.dst=true∧tS (uY ops oj) oi.dst=true∧Ki oi.dst oj.dst=true)
theorem mA {ops:Array Oper}{ms:List Nat}(h:kw ops ms=true){i:Nat}{oi:Oper}(hi:ops[i]?=some oi):StOk ops ms i oi:=by
 unfold kw at h
 rw[List.all_eq_true] at h
 have:=h i (List.mem_range.2 (nE.1 hi).1)
 simp only[hi,Bool.and_eq_true,List.all_eq_true,decide_eq_true_eq,beq_iff_eq] at this
 obtain⟨⟨h1,h2⟩,h3⟩:=this
 refine⟨h1,h2,fun j hj oj hoj=>?_⟩
 have:=h3 j (List.mem_range.2 hj)
 simp only[hoj,Bool.or_eq_true,Bool.and_eq_true] at this
 rcases this with h | ⟨⟨h,h'⟩,h''⟩
 ·exact .inl h
 ·exact .inr ⟨h,h',h''⟩
def blk (base j o:Nat):Prop:=base+cE*j≤o∧o<base+cE*(j+1)
theorem oU {base j j' o:Nat}(h:blk base j o)(h':blk base j' o):j=j':=by
 unfold blk cE at *
 omega
structure Trace (E:Env) (ops:Array Oper) (ms:List Nat) (base:Nat) (sq:Nat→St) (R W:Nat→List Nat):Prop where
 step:∀i,i<ops.size→∃o b,ops[i]?=some o∧ix ops (sq i) o=some b∧R i=(if b then gv (sq i) o.op else [])∧W i=(if b then iJ E (sq i) o.op else [])∧fT E ops (base+cE*i) (sq i) i=some (sq (i+1))
 own:∀i,i<ops.size→∀x∈R i,x<base∨∃j,(ms.getD i 0).testBit j=true∧blk base j x
 apart:∀j i,j<i→i<ops.size→(ms.getD i 0).testBit j=true∨((∀x∈W j,x∉R i)∧∀x∈W i,x∉R j)
section
variable {E : Env} {ops : Array Oper} {ms : List Nat} {base : Nat} {sq : Nat→St} {R W : Nat→List Nat}
def wT (ops:Array Oper)(j t:Nat):Prop:=∃o,ops[j]?=some o∧o.dst=some t
def wR (W:Nat→List Nat)(base j o:Nat):Prop:=o∈W j∨blk base j o
structure Inv (ops:Array Oper) (base:Nat) (sq:Nat→St) (W:Nat→List Nat) (S:Nat→Prop) (σ:St):Prop where
 nx:σ.nx=(sq 0).nx
 len:σ.tm.length=(sq 0).tm.length
 tm:∀t k,k≤ops.size→(∀j,j<k→wT ops j t→S j)→(∀j,k≤j→j<ops.size→wT ops j t→¬S j)→σ.tm[t]?=(sq k).tm[t]?
 rt:∀o k,k≤ops.size→(∀j,j<k→wR W base j o→S j)→(∀j,k≤j→j<ops.size→wR W base j o→¬S j)→σ.rt o=(sq k).rt o
theorem NT {tm:List V}{d:Option Nat}{v:V}{t:Nat}(h:d=some t):(kH tm d v)[t]?=if t<tm.length then some v else none:=by
 subst h
 simp only[kH]
 by_cases hl:t<tm.length
 ·rw[if_pos hl,List.getElem?_set_self hl]
 ·rw[if_neg hl,List.getElem?_eq_none (by simpa using hl)]
theorem NU {tm:List V}{d:Option Nat}{v:V}{t:Nat}(h:d≠some t):(kH tm d v)[t]?=tm[t]?:=by
 cases d with
 | none=>rfl
 | some d=>simp only[kH];rw[List.getElem?_set_ne (by simpa using h)]
theorem mB {id i:Nat}{st st':St}{o:Oper}{b:Bool}(ho:ops[i]?=some o)(hb:ix ops st o=some b)(h:fT E ops id st i=some st') :
  ∃v,st'={ st with tm:=kH st.tm o.dst v,rt:=st'.rt }∧((b=true∧bu E id st o.op=some (v,st'.rt))∨(b=false∧v=.und∧st'.rt=st.rt)):=by
 unfold fT at h
 simp only[ho,hb,cm] at h
 cases b with
 | true=>
  simp only[if_true,aU] at h
  obtain⟨⟨v,rt'⟩,hv,rfl⟩:=h
  exact⟨v,rfl,.inl ⟨rfl,hv⟩⟩
 | false=>
  simp only[Bool.false_eq_true,if_false,Option.some.injEq] at h
  subst h
  exact⟨.und,rfl,.inr ⟨rfl,rfl,rfl⟩⟩
theorem Trace.tmF (T:Trace E ops ms base sq R W){i t:Nat}(hi:i<ops.size)(h:¬wT ops i t):(sq (i+1)).tm[t]?=(sq i).tm[t]?:=by
 obtain⟨o,b,h1,h2,_,_,h5⟩:=T.step i hi
 obtain⟨v,h6,_⟩:=mB h1 h2 h5
 rw[h6]
 exact NU fun hd=>h ⟨o,h1,hd⟩
theorem Trace.len (T:Trace E ops ms base sq R W){i:Nat}(hi:i≤ops.size):(sq i).tm.length=(sq 0).tm.length:=by
 induction i with
 | zero=>rfl
 | succ i ih=>
  obtain⟨o,b,h1,h2,_,_,h5⟩:=T.step i (by omega)
  obtain⟨v,h6,_⟩:=mB h1 h2 h5
  rw[h6]
  simp only[ve]
  exact ih (by omega)
theorem Trace.nx (T:Trace E ops ms base sq R W){i:Nat}(hi:i≤ops.size):(sq i).nx=(sq 0).nx:=by
 induction i with
 | zero=>rfl
 | succ i ih=>
  obtain⟨o,b,h1,h2,_,_,h5⟩:=T.step i (by omega)
  obtain⟨v,h6,_⟩:=mB h1 h2 h5
  rw[h6]
  exact ih (by omega)
theorem Trace.rtF (T:Trace E ops ms base sq R W){i o:Nat}(hi:i<ops.size)(h:¬wR W base i o):(sq (i+1)).rt o=(sq i).rt o:=by
 obtain⟨op,b,h1,h2,_,h4,h5⟩:=T.step i hi
 obtain⟨v,_,h6 | h6⟩:=mB h1 h2 h5
 ·rw[if_pos h6.1] at h4
  refine W9 h6.2 (fun hw=>h (.inl (by rw[h4];exact hw))) fun hb=>h (.inr ?_)
  unfold blk
  exact⟨hb.1,by have:=hb.2;rw[Nat.mul_add];omega⟩
 ·rw[h6.2.2]
theorem Trace.tmS (T : Trace E ops ms base sq R W){t a b : Nat}(hab : a ≤ b)(hb : b ≤ ops.size)(h : ∀ j,a ≤ j→j < b→¬ wT ops j t) : (sq b).tm[t]?=(sq a).tm[t]?:=by
  induction b with
  | zero => have : a = 0 := by omega
            subst this; rfl
  | succ b ih =>
    by_cases he : a=b + 1
    · subst he; rfl
    · rw [T.tmF (by omega) (h b (by omega) (by omega))]
      exact ih (by omega) (by omega) fun j h1 h2=>h j h1 (by omega)
theorem Trace.rtS (T : Trace E ops ms base sq R W){o a b : Nat}(hab : a ≤ b)(hb : b ≤ ops.size)(h : ∀ j,a ≤ j→j < b→¬ wR W base j o) : (sq b).rt o=(sq a).rt o:=by
  induction b with
  | zero => have : a = 0 := by omega
            subst this; rfl
  | succ b ih =>
    by_cases he : a=b + 1
    · subst he; rfl
    · rw [T.rtF (by omega) (h b (by omega) (by omega))]
      exact ih (by omega) (by omega) fun j h1 h2=>h j h1 (by omega)
theorem Inv.init (T:Trace E ops ms base sq R W):Inv ops base sq W (fun _=>False) (sq 0):=
 ⟨rfl,rfl,fun t k hk h1 _=>(T.tmS (Nat.zero_le _) hk fun j _ hj hw=>h1 j hj hw).symm,fun o k hk h1 _=>(T.rtS (Nat.zero_le _) hk fun j _ hj hw=>h1 j hj hw).symm⟩
theorem Inv.final (T:Trace E ops ms base sq R W){S:Nat→Prop}{σ:St}(I:Inv ops base sq W S σ)(h:∀j,j<ops.size→S j):σ=sq ops.size:=by
 have h1:σ.tm=(sq ops.size).tm:=List.ext_getElem? fun t=>I.tm t ops.size (Nat.le_refl _) (fun j hj _=>h j hj) fun j h1 h2=>absurd h2 (by omega)
 have h2:σ.rt=(sq ops.size).rt:=funext fun o=>I.rt o ops.size (Nat.le_refl _) (fun j hj _=>h j hj) fun j h1 h2=>absurd h2 (by omega)
 have h3:σ.nx=(sq ops.size).nx:=by rw[I.nx,T.nx (Nat.le_refl _)]
 cases σ
 simp only at h1 h2 h3
 rw[h1,h2,h3]
def IW (ops:Array Oper)(S:Nat→Prop):Prop:=∀i o,ops[i]?=some o→S i→∀j∈pre o,S j
theorem Kh (hs:kw ops ms=true){S:Nat→Prop}(hc:IW ops S):∀{i:Nat} {o:Oper},ops[i]?=some o→(∀j∈pre o,S j)→∀j,(ms.getD i 0).testBit j=true→S j∧j<i:=by
 intro i
 induction i using Nat.strongRecOn with
 | _ i ih=>
  intro o ho hp j hj
  have so:=mA hs ho
  rw[so.mask] at hj
  rcases Hn hj with h | ⟨k,hk,h⟩
  ·simp at h
  ·have hki:=so.pre k hk
   rcases h with rfl | h
   ·exact⟨hp _ hk,hki⟩
   ·have hlt:k<ops.size:=by have:=(nE.1 ho).1;omega
    obtain⟨h1,h2⟩:=ih k hki (Array.getElem?_eq_getElem hlt) (fun x hx=>hc k _ (Array.getElem?_eq_getElem hlt) (hp k hk) x hx) j h
    exact⟨h1,by omega⟩
end
end
section
variable {E : Env} {ops : Array Oper} {ms : List Nat} {base : Nat} {sq : Nat→St} {R W : Nat→List Nat}
theorem abn {st st2:St}{x:Operand}(h:∀t,x=.tmp t→st2.tm[t]?=st.tm[t]?):ev st2 x=ev st x:=by
 cases x with
 | tmp t=>exact h t rfl
 | _=>rfl
theorem Yy {st st2:St}{o:Oper}(h:∀t∈BK ops o,st2.tm[t]?=st.tm[t]?):ix ops st2 o=ix ops st o:=by
 unfold ix
 cases hg:o.guard with
 | none=>rfl
 | some g=>
  obtain⟨j,w⟩:=g
  simp only
  have:rq ops st2 j=rq ops st j:=by
   unfold rq
   cases hd:(ops[j]?).bind (·.dst) with
   | none=>rfl
   | some d=>
    simp only[cm]
    rw[h d (by simp[BK,hg,hd])]
  rw[this]
theorem E9 {l:List Nat}{d:Option Nat}{t:Nat}(h:tS l d=true)(hd:d=some t):t∉l:=by
 subst hd
 simpa[tS] using h
theorem VQ (hs:kw ops ms=true)(T:Trace E ops ms base sq R W){S:Nat→Prop}{σ:St}(I:Inv ops base sq W S σ)(hc:IW ops S){i:Nat}{oi:Oper}(hi:ops[i]?=some oi)(hni:¬S i)(hp:∀j∈pre oi,S j) :
  ∃σ',fT E ops (base+cE*i) σ i=some σ'∧Inv ops base sq W (fun j=>S j∨j=i) σ':=by
 have hin:i<ops.size:=(nE.1 hi).1
 have anc:∀j,(ms.getD i 0).testBit j=true→S j∧j<i:=Kh hs hc hi hp
 have so:=mA hs hi
 have ops_get:∀j,j<ops.size→∃oj,ops[j]?=some oj:=fun j hj=>⟨_,Array.getElem?_eq_getElem hj⟩
 -- behind 'i' nothing that hangs on it has been done
 have later:∀j,j<ops.size→S j→(ms.getD j 0).testBit i=true→False:=fun j hj hS hb=>by
  obtain⟨oj,hoj⟩:=ops_get j hj
  exact hni (Kh hs hc hoj (fun k hk=>hc j oj hoj hS k hk) i hb).1
 have bitlt:∀j,j<ops.size→∀k,(ms.getD j 0).testBit k=true→k<j:=fun j hj k hb=>by
  obtain⟨oj,hoj⟩:=ops_get j hj
  exact (Kh hs (S:=fun _=>True) (fun _ _ _ _ _ _=>trivial) hoj (fun _ _=>trivial) k hb).2
 obtain⟨o,b,h1,h2,hR,hW,h5⟩:=T.step i hin
 rw[hi] at h1
 cases h1
 -- the operands
 have tmEq:∀t∈uY ops oi,σ.tm[t]?=(sq i).tm[t]?:=fun t ht=>by
  refine I.tm t i (Nat.le_of_lt hin) (fun j hj hw=>?_) (fun j hij hjn hw hS=>?_)
  ·obtain⟨oj,hoj,hd⟩:=hw
   rcases so.pair j hj oj hoj with h | ⟨h,_,_⟩
   ·exact (anc j h).1
   ·exact absurd ht (E9 h hd)
  ·obtain⟨oj,hoj,hd⟩:=hw
   by_cases he:j=i
   ·subst he;exact hni hS
   ·rcases (mA hs hoj).pair i (by omega) oi hi with h | ⟨_,h,_⟩
    ·exact later j hjn hS h
    ·exact absurd ht (E9 h hd)
 have hwant:ix ops σ oi=some b:=by
  rw[Yy fun t ht=>tmEq t (by simp[uY,ht]),h2]
 have hev:∀x∈oi.op.operands.toList,ev σ x=ev (sq i) x:=fun x hx=>abn fun t ht=>tmEq t (by
  subst ht
  simp only[uY,List.mem_append]
  exact .inl (List.mem_filterMap.2 ⟨_,hx,rfl⟩))
 -- the rows
 have sub:∀j,j<ops.size→∀x∈W j,x∈R j:=fun j hj x hx=>by
  obtain⟨oj,bj,_,_,hRj,hWj,_⟩:=T.step j hj
  rw[hWj] at hx
  rw[hRj]
  cases bj with
  | true=>exact Yn hx
  | false=>cases hx
 let H:Nat→Prop:=fun x=>x∈R i∨blk base i x
 have other:∀j,j<ops.size→j≠i→∀x,H x→wR W base j x→(j<i∧S j)∨(i<j∧¬S j):=by
  intro j hj hne x hH hw
  rcases Nat.lt_or_gt_of_ne hne with hlt | hgt
  ·left
   refine⟨hlt,?_⟩
   rcases hw with hw | hw<;>rcases hH with hH | hH
   ·rcases T.apart j i hlt hin with h | ⟨h,_⟩
    ·exact (anc j h).1
    ·exact absurd hH (h x hw)
   ·exfalso
    rcases T.own j hj x (sub j hj x hw) with h | ⟨k,hk,hb⟩
    ·have:=hH.1;omega
    ·have:=oU hb hH
     subst this
     have:=bitlt j hj k hk
     omega
   ·rcases T.own i hin x hH with h | ⟨k,hk,hb⟩
    ·have:=hw.1;omega
    ·have:=oU hb hw
     subst this
     exact (anc k hk).1
   ·exact absurd (oU hw hH) hne
  ·right
   refine⟨hgt,fun hS=>?_⟩
   rcases hw with hw | hw<;>rcases hH with hH | hH
   ·rcases T.apart i j hgt hj with h | ⟨_,h⟩
    ·exact later j hj hS h
    ·exact h x hw hH
   ·rcases T.own j hj x (sub j hj x hw) with h | ⟨k,hk,hb⟩
    ·have:=hH.1;omega
    ·have:=oU hb hH
     subst this
     exact later j hj hS hk
   ·rcases T.own i hin x hH with h | ⟨k,hk,hb⟩
    ·have:=hw.1;omega
    ·have:=oU hb hw
     subst this
     have:=bitlt i hin k hk
     omega
   ·exact absurd (oU hw hH) hne
 have ag:Ag H (sq i).rt σ.rt:=fun x hx=>by
  refine I.rt x i (Nat.le_of_lt hin) (fun j hj hw=>?_) (fun j hij hjn hw hS=>?_)
  ·rcases other j (by omega) (by omega) x hx hw with h | h
   ·exact h.2
   ·omega
  ·by_cases he:j=i
   ·subst he;exact hni hS
   ·rcases other j hjn he x hx hw with h | h
    ·omega
    ·exact h.2 hS
 obtain⟨v,hsq,hcase⟩:=mB hi h2 h5
 have hstep:∃rt3,fT E ops (base+cE*i) σ i=some { σ with tm:=kH σ.tm oi.dst v,rt:=rt3 }∧Lk H (sq i).rt (sq (i+1)).rt σ.rt rt3:=by
  rcases hcase with⟨hb,hop⟩ | ⟨hb,hv,hrt⟩
  ·subst hb
   simp only[if_true] at hR
   obtain⟨rt3,h3,k3⟩:=Tb (H:=H) (fun x h1 h2=>.inr ⟨h1,by rw[Nat.mul_add];omega⟩) (fun x hx=>.inl (by rw[hR];exact hx)) hev ag hop
   refine⟨rt3,?_,k3⟩
   unfold fT
   simp only[hi,hwant,cm,if_true,h3,Option.map_some]
  ·subst hb
   refine⟨σ.rt,?_,?_⟩
   ·unfold fT
    simp only[hi,hwant,cm,Bool.false_eq_true,if_false,hv]
   ·rw[hrt];exact Lk.refl ag
 obtain⟨rt3,h3,k3⟩:=hstep
 have wH:∀x,wR W base i x→H x:=fun x hw=>hw.imp (sub i hin x) id
 refine⟨_,h3,⟨I.nx,by simp only[ve];exact I.len,fun t k hk q1 q2=>?_,fun x k hk q1 q2=>?_⟩⟩
 ·by_cases hd:oi.dst=some t
  ·have hik:i<k:=Nat.lt_of_not_le fun hle=>q2 i hle hin ⟨oi,hi,hd⟩ (.inr rfl)
   have e1:(sq k).tm[t]?=(sq (i+1)).tm[t]?:=T.tmS hik hk fun j hj1 hj2 hw=>by
    have hS:S j:=(q1 j hj2 hw).resolve_right (by omega)
    obtain⟨oj,hoj,hdj⟩:=hw
    rcases (mA hs hoj).pair i (by omega) oi hi with h | ⟨_,_,h⟩
    ·exact later j (by omega) hS h
    ·rw[hd,hdj] at h
     simp[Ki] at h
   rw[e1,hsq]
   simp only
   rw[NT hd,NT hd,I.len,T.len (Nat.le_of_lt hin)]
  ·simp only
   rw[NU hd]
   exact I.tm t k hk (fun j hj hw=>(q1 j hj hw).resolve_right (by
    rintro rfl
    obtain⟨oj,hoj,hdj⟩:=hw
    rw[hi] at hoj
    cases hoj
    exact hd hdj)) (fun j hj1 hj2 hw hS=>q2 j hj1 hj2 hw (.inl hS))
 ·simp only
  by_cases hH:H x
  ·rw[(k3 x).1 hH]
   by_cases hw:wR W base i x
   ·have hik:i<k:=Nat.lt_of_not_le fun hle=>q2 i hle hin hw (.inr rfl)
    refine (T.rtS hik hk fun j hj1 hj2 hwj=>?_).symm
    have hS:S j:=(q1 j hj2 hwj).resolve_right (by omega)
    rcases other j (by omega) (by omega) x hH hwj with h | h
    ·omega
    ·exact h.2 hS
   ·rw[T.rtF hin hw,←ag x hH]
    exact I.rt x k hk (fun j hj hwj=>(q1 j hj hwj).resolve_right (by rintro rfl;exact hw hwj)) (fun j hj1 hj2 hwj hS=>q2 j hj1 hj2 hwj (.inl hS))
  ·rw[((k3 x).2 hH).1]
   exact I.rt x k hk (fun j hj hwj=>(q1 j hj hwj).resolve_right (by rintro rfl;exact hH (wH x hwj))) (fun j hj1 hj2 hwj hS=>q2 j hj1 hj2 hwj (.inl hS))
def xi (E:Env)(ops:Array Oper)(base:Nat):List Nat→St→Option St
 | [],st=>some st
 | i::is,st=>(fT E ops (base+cE*i) st i).bind (xi E ops base is)
def wJ (ops:Array Oper):(Nat→Prop)→List Nat→Prop
 | S,[]=>∀j,j<ops.size→S j
 | S,i::is=>¬S i∧(∃o,ops[i]?=some o∧∀j∈pre o,S j)∧wJ ops (fun j=>S j∨j=i) is
theorem Lq (hs:kw ops ms=true)(T:Trace E ops ms base sq R W):∀{is:List Nat} {S:Nat→Prop} {σ:St},Inv ops base sq W S σ→IW ops S→wJ ops S is→xi E ops base is σ=some (sq ops.size)
 | [],S,σ,I,hc,ht=>by
  have:=I.final T ht
  subst this
  rfl
 | i::is,S,σ,I,hc,ht=>by
  obtain⟨hni,⟨o,ho,hp⟩,ht⟩:=ht
  obtain⟨σ',h1,I'⟩:=VQ hs T I hc ho hni hp
  simp only[xi,h1,cm]
  refine Lq hs T I' (fun j oj hoj hS k hk=>?_) ht
  rcases hS with hS | rfl
  ·exact .inl (hc j oj hoj hS k hk)
  ·rw[ho] at hoj
   cases hoj
   exact .inl (hp k hk)
theorem Su {e:Edge}:Region.binds .any e=BO e:=by
 unfold Region.binds BO
 cases e.ground<;>rfl
theorem Ht {o:Oper}{j:Nat}:j∈pre o↔∃e∈o.after,Region.binds .any e=true∧e.on=j:=by
 unfold pre
 simp only[List.mem_map,List.mem_filter,Array.mem_toList_iff,Su]
 exact⟨fun⟨e,⟨h1,h2⟩,h3⟩=>⟨e,h1,h2,h3⟩,fun⟨e,h1,h2,h3⟩=>⟨e,⟨h1,h2⟩,h3⟩⟩
theorem NI (hs:kw ops ms=true):∀(fuel t:Nat) (listed:Array Bool),listed.size=ops.size→(∀l:List Nat,l.Nodup→(∀j∈l,j<ops.size∧listed.getD j false=false)→l.length≤fuel)→
  wJ ops (fun j=>listed.getD j false=true) (Region.linearise.go .any ops fuel t listed [])
 | 0,t,listed,hsz,hf=>by
  simp only[Region.linearise.go,List.reverse_nil,wJ]
  intro j hj
  by_cases h:listed.getD j false=true
  ·exact h
  ·have:=hf [j] (by simp) (by simp only[List.mem_singleton,forall_eq];exact⟨hj,by simpa using h⟩)
   simp at this
 | fuel+1,t,listed,hsz,hf=>by
  simp only[Region.linearise.go]
  change wJ ops _ (match (Region.ready .any ops listed)[t % (Region.ready .any ops listed).length]? with
   | some i=>Region.linearise.go .any ops fuel (t / (Region.ready .any ops listed).length) (listed.setIfInBounds i true) [i]
   | none=>[].reverse)
  cases hi:(Region.ready .any ops listed)[t % (Region.ready .any ops listed).length]? with
  | none=>
   have hnil:Region.ready .any ops listed=[]:=by
    cases hr:Region.ready .any ops listed with
    | nil=>rfl
    | cons x xs=>
     rw[hr] at hi
     have hlt:t % (x::xs).length<(x::xs).length:=Nat.mod_lt _ (by simp)
     simp at hi
     simp at hlt
     omega
   simp only[List.reverse_nil,wJ]
   intro j
   induction j using Nat.strongRecOn with
   | _ j ih=>
    intro hj
    by_cases h:listed.getD j false=true
    ·exact h
    ·exfalso
     have:j∈Region.ready .any ops listed:=by
      rw[mem_ready]
      refine⟨?_,_,Array.getElem?_eq_getElem hj,fun e he hb=>?_⟩
      ·have hlt:j<listed.size:=by omega
       simpa[Array.getD,hlt] using h
      ·have hk:e.on∈pre ops[j]:=Ht.2 ⟨e,he,hb,rfl⟩
       have:=(mA hs (Array.getElem?_eq_getElem hj)).pre _ hk
       exact ih _ this (by omega)
     rw[hnil] at this
     cases this
  | some i=>
   simp only
   rw[linearise_go_acc,List.reverse_singleton,List.singleton_append]
   have hm:=iV hi
   rw[mem_ready] at hm
   obtain⟨h0,o,ho,hall⟩:=hm
   have hin:i<ops.size:=(nE.1 ho).1
   have hil:i<listed.size:=by omega
   have hni:listed.getD i false=false:=by simpa[Array.getD,hil] using h0
   have ih:=NI hs fuel (t / (Region.ready .any ops listed).length) (listed.setIfInBounds i true) (by simpa using hsz) (fun l hl hj=>by
    have hnil:i∉l:=fun hm=>by
     have:=(hj i hm).2
     simp[Array.getD,hil] at this
    have:=hf (i::l) (List.nodup_cons.2 ⟨hnil,hl⟩) (fun j hjm=>by
     rcases List.mem_cons.1 hjm with rfl | hjm
     ·exact⟨hin,hni⟩
     ·obtain⟨q1,q2⟩:=hj j hjm
      refine⟨q1,?_⟩
      rwa[getD_set_ne false (by rintro rfl;exact hnil hjm)] at q2)
    simpa using this)
   have hni':¬(listed.getD i false=true):=by rw[hni];simp
   refine⟨hni',⟨o,ho,fun j hj=>?_⟩,?_⟩
   ·obtain⟨e,he,hb,rfl⟩:=Ht.1 hj
    exact hall e he hb
   ·have:(fun j=>(listed.setIfInBounds i true).getD j false=true)=(fun j=>listed.getD j false=true∨j=i):=by
     funext j
     apply propext
     by_cases he:j=i
     ·subst he
      simp[Array.getD,hil]
     ·rw[getD_set_ne false (Ne.symm he)]
      simp[he]
    rw[this] at ih
    exact ih
theorem BP:∀{n:Nat} {l:List Nat},l.Nodup→(∀j∈l,j<n)→l.length≤n
 | 0,[],_,_=>by simp
 | 0,x::l,_,h=>absurd (h x (by simp)) (by omega)
 | n+1,l,hl,h=>by
  by_cases hn:n∈l
  ·have h1:=BP (n:=n) (hl.erase n) fun j hj=>by
    rw[hl.mem_erase_iff] at hj
    have:=h j hj.2
    omega
   rw[List.length_erase_of_mem hn] at h1
   omega
  ·have:=BP (n:=n) hl fun j hj=>by
    have:=h j hj
    have:j≠n:=by rintro rfl;exact hn hj
    omega
   omega
theorem vx (hs:kw ops ms=true)(t:Nat):wJ ops (fun _=>False) (Region.schedule true ops t):=by
 have h:=NI hs ops.size t (Array.replicate ops.size false) (by simp) fun l hl hj=>BP hl fun j hjm=>(hj j hjm).1
 have e:(fun j=>(Array.replicate ops.size false).getD j false=true)=fun _=>False:=by
  funext j
  apply propext
  simp[Array.getD]
 rw[e] at h
 simpa[Region.schedule,Region.linearise] using h
theorem So (hs:kw ops ms=true)(T:Trace E ops ms base sq R W)(t:Nat):xi E ops base (Region.schedule true ops t) (sq 0)=some (sq ops.size):=
 Lq hs T (Inv.init T) (fun _ _ _ h=>h.elim) (vx hs t)
theorem FS {S:Nat→Prop}:∀{is:List Nat},wJ ops S is→is.Nodup∧∀i∈is,¬S i∧i<ops.size
 | [],_=>by simp
 | i::is,⟨h1,⟨o,ho,_⟩,h2⟩=>by
  obtain⟨h3,h4⟩:=FS h2
  refine⟨List.nodup_cons.2 ⟨fun hm=>(h4 i hm).1 (.inr rfl),h3⟩,fun j hj=>?_⟩
  rcases List.mem_cons.1 hj with rfl | hj
  ·exact⟨h1,(nE.1 ho).1⟩
  ·exact⟨fun h=>(h4 j hj).1 (.inl h),(h4 j hj).2⟩
end
section
abbrev nt:=List (Nat×List Nat×List Nat)
def pS (base:Nat)(ms:List Nat)(i:Nat)(R W:List Nat)(log:nt):Bool:=
 R.all (fun x=>decide (x<base)||(ms.getD i 0).testBit ((x - base) / cE)) &&
 log.all fun e=>(ms.getD i 0).testBit e.1||(e.2.2.all (fun x=>!R.contains x)&&W.all fun x=>!e.2.1.contains x)
def nT (E:Env)(ops:Array Oper)(ms:List Nat)(i:Nat)(log:nt)(st:St):Option (nt×St):=
 (ops[i]?).bind fun o=>(ix ops st o).bind fun b=>
  if pS st.nx ms i (if b then gv st o.op else []) (if b then iJ E st o.op else []) log then
   (fT E ops (st.nx+cE*i) st i).map fun st'=>((i,(if b then gv st o.op else []),(if b then iJ E st o.op else []))::log,st') else none
def nA:List It→Bool
 | .dops _ _ _ _::_=>false
 | _=>true
inductive Run (E:Env) (m:Nat) (Q:St→Prop):List It→St→Prop
 | done {st} (h:Q st):Run E m Q [] st
 | step {k k' st st'} (h:jA E k st=some (k',st')) (r:Run E m Q k' st'):Run E m Q k st
 | forget {k st} (L:List Nat) (hk:nA k=true) (r:Run E m Q k (om m L st)):Run E m Q k st
 | split {k st} (S:St→Prop) (hk:nA k=true) (h:∀{G:Ground} {w0 w:World} {ρ0 ρ:bV} {a:Act},gK G m w0 ρ0 w ρ st a→∃ρ' st',S st'∧gK G m w0 ρ0 w ρ' st' a) (r:∀st',S st'→Run E m Q k st'):Run E m Q k st
 | nilq {ops:Array Oper} {i:Nat} {is:List Nat} {k st} {o:Oper} {op:BinOp} {t t' e:TypeId} {x y:Operand} {nl:Bool} (ho:ops[i]?=some o) (hg:ix ops st o=some true) (hop:o.op=.binOp op t x y t') (he:op=.eql∨op=.neq)
  (hx:ev st x=some (.isl nl [])) (hy:ev st y=some (.isl true [])) (hd:E.desc t=some (.slice e)) (r:∀b,Run E m Q (.ops ops is::k) { st with tm:=kH st.tm o.dst (.bool b),nx:=st.nx+cE }):Run E m Q (.ops ops (i::is)::k) st
 | draw {id ops k st} (ms:List Nat) (hs:kw ops ms=true) (r:Run E m Q (.dops ops ms 0 []::k) st):Run E m Q (.code (.region id ops true)::k) st
 | dop {ops ms i log log' k st st'} (h:nT E ops ms i log st=some (log',st')) (r:Run E m Q (.dops ops ms (i+1) log'::k) st'):Run E m Q (.dops ops ms i log::k) st
 | dend {ops ms i log k st} (h:ops.size≤i) (r:Run E m Q k { st with nx:=st.nx+cE*ops.size }):Run E m Q (.dops ops ms i log::k) st
theorem Run.steps {E:Env}{m:Nat}{Q:St→Prop}:∀{n:Nat} {k k':List It} {st st':St},IU E n k st=some (k',st')→Run E m Q k' st'→Run E m Q k st
 | 0,k,k',st,st',h,r=>by simp[IU] at h;obtain⟨rfl,rfl⟩:=h;exact r
 | n+1,k,k',st,st',h,r=>by
  simp only[IU] at h
  split at h
  ·rename_i k1 st1 h1
   exact .step h1 (Run.steps h r)
  ·cases h
inductive DRun (E:Env) (ops:Array Oper) (ms:List Nat):Nat→nt→St→St→Prop
 | done {i log st} (h:ops.size≤i):DRun E ops ms i log st st
 | step {i log log' st st1 st'} (h:nT E ops ms i log st=some (log',st1)) (r:DRun E ops ms (i+1) log' st1 st'):DRun E ops ms i log st st'
theorem zq {E:Env}{ops:Array Oper}{ms:List Nat}{i:Nat}{log log':nt}{st st':St}(h:nT E ops ms i log st=some (log',st')) :
  ∃o b R W,ops[i]?=some o∧ix ops st o=some b∧R=(if b then gv st o.op else [])∧W=(if b then iJ E st o.op else [])∧pS st.nx ms i R W log=true∧fT E ops (st.nx+cE*i) st i=some st'∧log'=(i,R,W)::log:=by
 simp only[nT,aR] at h
 obtain⟨o,ho,b,hb,h⟩:=h
 generalize hR:(if b=true then gv st o.op else [])=R at h
 generalize hW:(if b=true then iJ E st o.op else [])=W at h
 split at h
 ·rename_i hok
  simp only[aU,Prod.mk.injEq] at h
  obtain⟨x,hx,rfl,rfl⟩:=h
  exact⟨o,b,R,W,ho,hb,hR.symm,hW.symm,hok,hx,rfl⟩
 ·cases h
theorem V0 {base:Nat}{ms:List Nat}{i:Nat}{R W:List Nat}{log:nt}(h:pS base ms i R W log=true) :
  (∀x∈R,x<base∨∃j,(ms.getD i 0).testBit j=true∧blk base j x)∧∀e∈log,(ms.getD i 0).testBit e.1=true∨((∀x∈e.2.2,x∉R)∧∀x∈W,x∉e.2.1):=by
 simp only[pS,Bool.and_eq_true,List.all_eq_true,Bool.or_eq_true,decide_eq_true_eq,Bool.not_eq_true',List.contains_eq_mem,decide_eq_false_iff_not] at h
 refine⟨fun x hx=>?_,fun e he=>?_⟩
 ·by_cases hlt:x<base
  ·exact .inl hlt
  ·right
   refine⟨_,(h.1 x hx).resolve_left hlt,?_⟩
   unfold blk cE
   have:=Nat.div_add_mod (x - base) 16
   have:=Nat.mod_lt (x - base) (show 16>0 by omega)
   omega
 ·exact h.2 e he
theorem Li {E:Env}{ops:Array Oper}{id i:Nat}{st st':St}(h:fT E ops id st i=some st'):st'.nx=st.nx:=by
 unfold fT at h
 split at h
 ·cases h;rfl
 ·simp only[aR] at h
  obtain⟨b,_,h⟩:=h
  split at h
  ·simp only[aU] at h
   obtain⟨_,_,rfl⟩:=h
   rfl
  ·cases h;rfl
theorem DRun.trace {E:Env}{ops:Array Oper}{ms:List Nat}{i:Nat}{log:nt}{st st':St}(r:DRun E ops ms i log st st'):i≤ops.size→∃(sq:Nat→St) (R W:Nat→List Nat),sq i=st∧sq ops.size=st'∧
  (∀j,i≤j→j<ops.size→∃o b,ops[j]?=some o∧ix ops (sq j) o=some b∧R j=(if b then gv (sq j) o.op else [])∧W j=(if b then iJ E (sq j) o.op else [])∧fT E ops (st.nx+cE*j) (sq j) j=some (sq (j+1)))∧
  (∀j,i≤j→j<ops.size→∀x∈R j,x<st.nx∨∃k,(ms.getD j 0).testBit k=true∧blk st.nx k x)∧
  (∀j k,i≤j→j<k→k<ops.size→(ms.getD k 0).testBit j=true∨((∀x∈W j,x∉R k)∧∀x∈W k,x∉R j))∧
  (∀e∈log,∀k,i≤k→k<ops.size→(ms.getD k 0).testBit e.1=true∨((∀x∈e.2.2,x∉R k)∧∀x∈W k,x∉e.2.1)):=by
 induction r with
 | @done i log st h=>
  intro hi
  have:i=ops.size:=by omega
  subst this
  exact⟨fun _=>st,fun _=>[],fun _=>[],rfl,rfl,fun j h1 h2=>absurd h2 (by omega),fun j h1 h2=>absurd h2 (by omega),fun j k h1 h2 h3=>absurd h3 (by omega),fun e _ k h1 h2=>absurd h2 (by omega)⟩
 | @step i log log' st st1 st' h r ih=>
  intro hi
  obtain⟨o,b,R0,W0,ho,hb,hR,hW,hok,hst,rfl⟩:=zq h
  have hin:i<ops.size:=(nE.1 ho).1
  obtain⟨sq,R,W,q1,q2,q3,q4,q5,q6⟩:=ih (by omega)
  have hnx:st1.nx=st.nx:=Li hst
  obtain⟨ok1,ok2⟩:=V0 hok
  refine⟨fun j=>if j=i then st else sq j,fun j=>if j=i then R0 else R j,fun j=>if j=i then W0 else W j,by simp,by simp only;rw[if_neg (by omega)];exact q2,fun j h1 h2=>?_,fun j h1 h2=>?_,fun j k h1 h2 h3=>?_,fun e he k h1 h2=>?_⟩
  ·by_cases hj:j=i
   ·subst hj
    simp only[if_true,if_neg (show ¬j+1=j by omega)]
    exact⟨o,b,ho,hb,hR,hW,by rw[q1];exact hst⟩
   ·simp only[if_neg hj,if_neg (show ¬j+1=i by omega)]
    obtain⟨o',b',p1,p2,p3,p4,p5⟩:=q3 j (by omega) h2
    exact⟨o',b',p1,p2,p3,p4,by rw[←hnx];exact p5⟩
  ·by_cases hj:j=i
   ·subst hj
    simp only[if_true]
    exact ok1
   ·simp only[if_neg hj]
    rw[←hnx]
    exact q4 j (by omega) h2
  ·by_cases hj:j=i
   ·subst hj
    simp only[if_true,if_neg (show ¬k=j by omega)]
    exact q6 (j,R0,W0) (by simp) k (by omega) h3
   ·simp only[if_neg hj,if_neg (show ¬k=i by omega)]
    exact q5 j k (by omega) h2 h3
  ·by_cases hk:k=i
   ·subst hk
    simp only[if_true]
    exact ok2 e he
   ·simp only[if_neg hk]
    exact q6 e (List.mem_cons_of_mem _ he) k (by omega) h2
theorem DRun.any {E:Env}{ops:Array Oper}{ms:List Nat}{st st':St}(hs:kw ops ms=true)(r:DRun E ops ms 0 [] st st')(t:Nat):xi E ops st.nx (Region.schedule true ops t) st=some st':=by
 obtain⟨sq,R,W,q1,q2,q3,q4,q5,q6⟩:=r.trace (Nat.zero_le _)
 have T:Trace E ops ms st.nx sq R W:=⟨fun i hi=>q3 i (Nat.zero_le _) hi,fun i hi=>q4 i (Nat.zero_le _) hi,fun j i hj hi=>q5 j i (Nat.zero_le _) hj hi⟩
 have:=So hs T t
 rwa[q1,q2] at this
end
section
variable {G : Ground} {m : Nat} {w0 w : World} {ρ0 ρ : bV} {st st' : St} {a : Act}
theorem RelU.drawn {Un : Nat→Prop}(R : RelU Un G m w0 ρ0 w ρ st a) : RelU Un G m w0 ρ0 { w with drawn:=w.drawn + 1 } ρ st a:=by
  have K : Keep (fun _ _=>False) w ρ st.rt { w with drawn:=w.drawn + 1 } ρ st.rt:=⟨fun b hb _=>⟨hb,rfl⟩,fun o nv p _ hl=>⟨hl,fun b n h1 h2=>⟨h1,h2⟩⟩,fun b l h=>⟨h,rfl⟩⟩
  have Wd : Wk w { w with drawn:=w.drawn + 1 }:=⟨rfl,rfl,rfl,Nat.le_refl _,fun _ _ h=>h⟩
  exact { R with
    tm:=⟨R.tm.1,fun i v u hv hu=>(R.tm.2 i v u hv hu).keep K (eQ (by rintro _ _ h; exact h.elim) (R.tmn i v hv))⟩
    rok:=fun o r hr=>cO.under K (fun b l hb _=>⟨hb,rfl⟩) (R.rok o r hr) (R.rtn o r hr)
    lab:=⟨R.lab.l,R.lab.z,R.lab.f⟩
    wk:=R.wk.trans Wd
    gr:=Ground.keep R.gr K.k1 Wd }
section
variable {P : Program} {E : Env} (hG : ∀ f e,E.fn f=some e→gf P G f e) (A : Agree P E)
include hG A
def aaB (base n:Nat)(is:List Nat):Nat→Prop:=fun o=>base+cE*n≤o∨∃i∈is,blk base i o
theorem Hr {ops:Array Oper}{base:Nat}(hb0:0<base){Q:Exit→Act→World→Prop}:∀{is:List Nat} {st:St} {w:World} {ρ:bV} {a:Act},is.Nodup→(∀i∈is,i<ops.size)→xi E ops base is st=some st'→RelU (aaB base ops.size is) G m w0 ρ0 w ρ st a→
  (∀w ρ a,RelU (eN (base+cE*ops.size)) G m w0 ρ0 w ρ st' a→Q .normal a w)→wpOps P ops Q is a w
 | [],st,w,ρ,a,hd,hl,h,R,hQ=>by
  simp only[xi,Option.some.injEq] at h
  subst h
  simp only[wpOps]
  exact hQ w ρ a (R.mono (nx:=st.nx) fun o ho=>.inl ho)
 | i::is,st,w,ρ,a,hd,hl,h,R,hQ=>by
  simp only[xi,aR] at h
  obtain⟨st1,h1,h2⟩:=h
  obtain⟨ge,hd2⟩:=List.nodup_cons.1 hd
  have hil:=hl i (by simp)
  refine RelU.step hG A R (id:=base+cE*i) (nx:=st1.nx) (by omega) (fun o q1 q2=>.inr ⟨i,by simp,q1,by rw[Nat.mul_add];omega⟩) h1 fun w' ρ' a' R'=>?_
  refine Hr hb0 hd2 (fun j hj=>hl j (List.mem_cons_of_mem _ hj)) h2 (R'.mono (nx:=st1.nx) fun o ho=>?_) hQ
  rcases ho with ho | ⟨j,hj,hb⟩
  ·refine⟨.inl ho,fun hc=>?_⟩
   have:cE*(i+1)≤cE*ops.size:=Nat.mul_le_mul_left _ hil
   rw[Nat.mul_add] at this
   omega
  ·refine⟨.inr ⟨j,List.mem_cons_of_mem _ hj,hb⟩,fun hc=>?_⟩
   have:=oU (j:=i) ⟨hc.1,by rw[Nat.mul_add];omega⟩ hb
   subst this
   exact ge hj
theorem OW {id:Nat}{ops:Array Oper}{ms:List Nat}{k:List It}{F:Act→World→Prop}(hm:P.follows .mixedOrders=true)(hs:kw ops ms=true)(r:DRun E ops ms 0 [] st st')(R:gK G m w0 ρ0 w ρ st a)(ih:∀w ρ a,gK G m w0 ρ0 w ρ { st' with nx:=st.nx+cE*ops.size } a→mt P F k a w):mt P F (.code (.region id ops true)::k) a w:=by
 intro b cs
 have hpos:0<st.nx:=R.up st.nx (Nat.le_refl _)
 generalize ht:w.tape w.drawn (.order b.fn id)=t
 have htopo:=vx hs t
 obtain⟨h1,h2⟩:=FS htopo
 have hw:=Hr (P:=P) (Q:=Pn (mt P F k)) hG A hpos h1 (fun i hi=>(h2 i hi).2) (r.any hs t) (R.drawn.mono (Un':=aaB st.nx ops.size (Region.schedule true ops t)) (nx:=st.nx) fun o ho=>by
  rcases ho with ho | ⟨i,hi,hb⟩
  ·unfold eN;omega
  ·have:=hb.1;unfold eN;omega) fun w ρ a R'=>ih w ρ a (R'.mono (nx:=st.nx+cE*ops.size) fun o ho=>ho)
 obtain⟨a',w',td,hq,hst⟩:=NF (ops:=ops) hw b cs
 refine⟨a',w',td,hq,?_⟩
 have hstep:=step_region_draw (P:=P) (b:=b) (a:=a) (k:=k.map mT) (cs:=cs) (w:=w) (ops:=ops) (id:=id)
 rw[hm,ht] at hstep
 exact Steps.head hstep hst
def hI (k:List It):Bool:=k.all fun
 | .dops _ _ _ _=>false
 | _=>true
omit hG A in
theorem pE:∀{k k':List It} {id:Nat},ie id k=some k'→hI k=true→hI k'=true
 | [],k',id,h,_=>by simp[ie] at h
 | .blk id'::k,k',id,h,hn=>by
  simp only[hI,List.all_cons,Bool.and_eq_true] at hn
  simp only[ie] at h
  split at h
  ·cases h;exact hn.2
  ·exact pE h hn.2
 | .code c::k,k',id,h,hn=>by
  simp only[hI,List.all_cons,Bool.and_eq_true] at hn
  exact pE (k:=k) (by simpa[ie] using h) hn.2
 | .ops o i::k,k',id,h,hn=>by
  simp only[hI,List.all_cons,Bool.and_eq_true] at hn
  exact pE (k:=k) (by simpa[ie] using h) hn.2
 | .lp c::k,k',id,h,hn=>by
  simp only[hI,List.all_cons,Bool.and_eq_true] at hn
  exact pE (k:=k) (by simpa[ie] using h) hn.2
 | .dops _ _ _ _::k,k',id,h,hn=>by simp[hI] at hn
theorem Tu {k k':List It}(h:jA E k st=some (k',st'))(hn:hI k=true):hI k'=true:=by
 have tl:∀{x:It} {k:List It},hI (x::k)=true→hI k=true:=fun h=>by
  simp only[hI,List.all_cons,Bool.and_eq_true] at h
  exact h.2
 unfold jA at h
 split at h
 ·cases h;exact tl hn
 ·cases h;have:=tl hn;simpa[hI] using this
 ·cases h;have:=tl hn;simpa[hI] using this
 ·simp only[aR] at h
  obtain⟨cv,hc,h⟩:=h
  have:=tl hn
  split at h<;>cases h<;>simpa[hI] using this
 ·cases h;have:=tl hn;simpa[hI] using this
 ·cases h;have:=tl hn;simpa[hI] using this
 ·simp only[aU] at h
  obtain⟨k1,hk,h⟩:=h
  cases h
  exact pE hk (tl hn)
 ·cases h;rfl
 ·cases h;exact tl hn
 ·simp only[aU] at h
  obtain⟨st1,hst,h⟩:=h
  cases h
  have:=tl hn
  simpa[hI] using this
 ·cases h;exact tl hn
 ·cases h;have:=tl hn;simpa[hI] using this
 ·cases h
def OM (P:Program)(G:Ground)(m:Nat)(w0:World)(ρ0:bV)(Q:St→Prop)(k:List It)(st:St):Prop:=∀w ρ a,gK G m w0 ρ0 w ρ st a→Kb P (IP G m w0 ρ0 Q) k a w
def Z6 (P:Program)(E:Env)(G:Ground)(m:Nat)(w0:World)(ρ0:bV)(Q:St→Prop):List It→St→Prop
 | .dops ops ms i log::k,st=>hI k=true→∃st',DRun E ops ms i log st st'∧OM P G m w0 ρ0 Q k { st' with nx:=st'.nx+cE*ops.size }
 | k,st=>hI k=true→OM P G m w0 ρ0 Q k st
theorem yf {Q:St→Prop}{k:List It}(h:Z6 P E G m w0 ρ0 Q k st)(hn:hI k=true):OM P G m w0 ρ0 Q k st:=by
 cases k with
 | nil=>exact h hn
 | cons x k=>
  cases x<;>first | exact h hn | simp[hI] at hn
omit hG A in
theorem DRun.nx {ops:Array Oper}{ms:List Nat}{i:Nat}{log:nt}(r:DRun E ops ms i log st st'):st'.nx=st.nx:=by
 induction r with
 | done h=>rfl
 | step h r ih=>
  obtain⟨o,b,R,W,_,_,_,_,_,hst,_⟩:=zq h
  rw[ih,Li hst]
theorem Run.sound (hm:P.follows .mixedOrders=true){Q:St→Prop}{k:List It}(r:Run E m Q k st):Z6 P E G m w0 ρ0 Q k st:=by
 have mk:∀{k:List It} {st:St},(hI k=true→OM P G m w0 ρ0 Q k st)→nA k=true→Z6 P E G m w0 ρ0 Q k st:=by
  intro k st h hd
  cases k with
  | nil=>exact h
  | cons x k=>cases x<;>first | exact h | simp[nA] at hd
 induction r with
 | done h=>exact fun _ w ρ a R=>⟨_,_,R,h⟩
 | @step k k' st st' h r ih=>
  refine mk (fun hn w ρ a R=>Pv hG A h R fun w ρ a R'=>yf hG A ih (Tu hG A h hn) w ρ a R') ?_
  cases k with
  | nil=>rfl
  | cons x k=>
   cases x<;>first | rfl | (simp[jA] at h)
 | forget L hk r ih=>
  refine mk (fun hn w ρ a R=>?_) hk
  obtain⟨ρ',R'⟩:=R.forget L
  exact yf hG A ih hn w ρ' a R'
 | split S hk h r ih=>
  refine mk (fun hn w ρ a R=>?_) hk
  obtain⟨ρ',st',hS,R'⟩:=h R
  exact yf hG A (ih st' hS) hn w ρ' a R'
 | @nilq ops i is k st o op t t' e x y nl ho hg hop he hx hy hd r ih=>
  refine mk (fun hn w ρ a R=>?_) rfl
  refine R.nilq A ho hg hop he hx hy hd fun b w' ρ' a' R'=>?_
  exact yf hG A (ih b) (by simpa[hI] using hn) w' ρ' a' R'
 | @draw id ops k st ms hs r ih=>
  refine mk (fun hn w ρ a R=>?_) rfl
  have hn':hI k=true:=by
   simp only[hI,List.all_cons,Bool.and_eq_true] at hn
   exact hn.2
  obtain⟨st',hr,hk⟩:=ih hn'
  refine OW hG A hm hs hr R fun w ρ a R'=>gZ (hk w ρ a ?_)
  rw[hr.nx]
  exact R'
 | @dop ops ms i log log' k st st' h r ih=>
  intro hn
  obtain⟨st2,h1,h2⟩:=ih hn
  exact⟨st2,.step h h1,h2⟩
 | @dend ops ms i log k st h r ih=>
  intro hn
  exact⟨st,.done h,yf hG A ih hn⟩
theorem Run.fin (hm:P.follows .mixedOrders=true){Q:St→Prop}{c:Code}(r:Run E m Q [.code c] st)(R:gK G m w0 ρ0 w ρ st a):Kb P (IP G m w0 ρ0 Q) [.code c] a w:=
 yf hG A (Run.sound hG A hm r) rfl w ρ a R
end
end
section
variable {G : Ground} {m : Nat} {w0 w : World} {ρ0 ρ : bV} {st st' : St} {a : Act} {rt : an}
theorem vq {v y:V}{k:Nat}(hk:k<(cells v).length)(hy:ay y=false):cells (dY v k y)=(cells v).set k y∧ay (dY v k y)=ay v:=by
 cases v with
 | agg cs=>exact⟨rfl,rfl⟩
 | _=>
  have h0:k=0:=by simp[cells] at hk;exact hk
  subst h0
  cases y<;>first | (simp[ay] at hy;done) | exact⟨rfl,rfl⟩
theorem gK.slot {t k s : Nat}{v : V}(ht : st.tm[t]? = some v)(hk : (cells v)[k]? = some (.isl true []))(R : gK G m w0 ρ0 w ρ st a) :
    gK G m w0 ρ0 w ρ ⟨st.tm.set t (dY v k (.hs st.nx 0 [] s 0 0)),upd st.rt st.nx (some ⟨0,s,[]⟩),st.nx + cE⟩ a:=by
  have hnx : st.rt st.nx=none:=R.fresh _ (Nat.le_refl _)
  have hne : ∀ {o r},st.rt o=some r→o ≠ st.nx:=fun h e=>by subst e; rw [hnx] at h; cases h
  have K : Keep (fun o _=>o=st.nx) w ρ st.rt w ρ (upd st.rt st.nx (some ⟨0,s,[]⟩)):=by
    refine ⟨fun b hb _=>⟨hb,rfl⟩,fun o nv p hN hl=>⟨?_,fun b n h1 h2=>⟨h1,h2⟩⟩,fun b l h=>⟨h,rfl⟩⟩
    have hN' : o ≠ st.nx:=hN
    simpa [cU,cG,cr,upd,hN'] using hl
  have hKn : ∀ {v : V},az (cC (eN st.nx) st.rt) v→az (fun o _=>o=st.nx) v:=fun h=>eQ (fun o nv e=>by subst e; exact .inl (Nat.le_refl _)) h
  have hlt : k < (cells v).length:=(cZ.1 hk).1
  obtain ⟨hc1,hc2⟩:=vq (y:=.hs st.nx 0 [] s 0 0) hlt rfl
  have hmono : ∀ o nv,cC (eN (st.nx + cE)) (upd st.rt st.nx (some ⟨0,s,[]⟩)) o nv→cC (eN st.nx) st.rt o nv:=by
    intro o nv h
    rcases h with h | ⟨r,h1,h2⟩
    · exact .inl (Nat.le_trans (Nat.le_add_right _ _) h)
    · by_cases e : o=st.nx
      · exact .inl (by subst e; exact Nat.le_refl _)
      · exact .inr ⟨r,by simpa [upd,e] using h1,h2⟩
  have hnn : ¬ cC (eN (st.nx + cE)) (upd st.rt st.nx (some ⟨0,s,[]⟩)) st.nx 0:=by
    rintro (h | ⟨r,h1,h2⟩)
    · have : st.nx + 16 ≤ st.nx:=h
      omega
    · simp [upd] at h1
      subst h1
      simp at h2
  have old : ∀ (i : Nat) x u,st.tm[i]?=some x→a.tmps[i]?=some u→be w ρ (upd st.rt st.nx (some ⟨0,s,[]⟩)) b7 x u:=fun i x u hx hu=>(R.tm.2 i x u hx hu).keep K (hKn (R.tmn i x hx))
  exact
    { tm := by
        refine ⟨by simpa using R.tm.1,fun i x u hx hu=>?_⟩
        rw [List.getElem?_set] at hx
        split at hx
        · rename_i e
          split at hx
          · cases hx
            subst e
            obtain ⟨g,hg1,hg2⟩:=old t v u ht hu
            refine ⟨g,?_,fun j x hx=>?_⟩
            · rw [hg1]
              unfold fS
              rw [hc2,hc1]
              simp
            · rw [hc1,List.getElem?_set] at hx
              split at hx
              · rename_i ej
                subst ej
                · cases hx
                  have:=hg2 k _ hk
                  have hA : g k=.slice none 0 0:=by
                    generalize g k=z at this
                    cases this with
                    | isl0 _ _ A c hn=>obtain ⟨rfl,rfl⟩:=hn rfl; rfl
                  rw [hA]
                  exact .hs _ _ _ _ _ _ _ _ (fun _=>⟨0,none,rfl,Nat.le_refl _,fun h=>absurd rfl h⟩) trivial
              · exact hg2 j x hx
          · cases hx
        · exact old i x u hx hu
      rok:=fun o r hr=>by
        by_cases e : o=st.nx
        · subst e
          simp [upd] at hr
          subst hr
          exact .inl rfl
        · have hr' : st.rt o=some r:=by simpa [upd,e] using hr
          exact cO.under K (fun b l hb _=>⟨hb,rfl⟩) (R.rok o r hr') (R.rtn o r hr')
      inj:=R.inj
      rtn:=fun o r hr=>by
        by_cases e : o=st.nx
        · subst e
          simp [upd] at hr
          subst hr
          simp [nhs]
        · exact R.rtn o r (by simpa [upd,e] using hr)
      lab := ⟨fun b o l h => ⟨(R.lab.l b o l h).1, by
          rcases (R.lab.l b o l h).2 with h1 | ⟨r,h1⟩
          · exact .inl h1
          · exact .inr ⟨r,by simp [upd,hne h1,h1]⟩⟩,by have:=R.up st.nx (Nat.le_refl _); simp [upd,show (0 : Nat) ≠ st.nx by omega,R.lab.z],R.lab.f⟩
      fresh:=fun o ho=>by
        have ho' : st.nx + cE ≤ o:=ho
        have : o ≠ st.nx:=by simp [cE] at ho'; omega
        simp only [upd,if_neg this]
        exact R.fresh o (Nat.le_trans (Nat.le_add_right _ _) ho')
      up:=fun o ho=>R.up o (Nat.le_trans (Nat.le_add_right _ _) ho)
      tmn:=fun i x hx=>by
        rw [List.getElem?_set] at hx
        split at hx
        · split at hx
          · cases hx
            have hv:=eQ hmono (R.tmn t v ht)
            cases v with
            | agg cs =>
              simp only [dY,az] at hv ⊢
              rw [ew] at hv ⊢
              intro z hz
              rcases List.mem_or_eq_of_mem_set hz with hz | rfl
              · exact hv z hz
              · exact hnn
            | _=>exact hnn
          · cases hx
        · exact eQ hmono (R.tmn i x hx)
      wk:=R.wk,fr:=R.fr,k0:=R.k0,f0:=R.f0,df:=R.df,gr:=R.gr
      am:=fun i b n h1 h2 h3 h4=>R.am i b n h1 h2 h3 (by
        have : i ≠ st.nx:=fun e=>R.nl i (R.le b i [] h2) (by subst e; exact Nat.le_refl _)
        simpa [upd,this] using h4)
      le:=R.le
      nl:=fun i hi h=>R.nl i hi (Nat.le_trans (Nat.le_add_right _ _) h) }
inductive Cv:V→V→Prop
 | refl (v):Cv v v
 | nil (s):Cv (.isl true []) (.usl s [])
 | agg (cs cs') (hl:cs.length=cs'.length) (h:∀(k:Nat) x y,cs[k]?=some x→cs'[k]?=some y→Cv x y):Cv (.agg cs) (.agg cs')
 | usl (s es es') (hl:es.length=es'.length) (h:∀(k:Nat) x y,es[k]?=some x→es'[k]?=some y→Cv x y):Cv (.usl s es) (.usl s es')
theorem Cv.isAgg {v v':V}(h:Cv v v'):ay v=ay v':=by cases h<;>rfl
theorem Cv.cells {v v':V}(h:Cv v v'):(cells v).length=(Go.Ln.cells v').length∧∀(k:Nat) x y,(Go.Ln.cells v)[k]?=some x→(Go.Ln.cells v')[k]?=some y→Cv x y:=by
 cases h with
 | refl=>exact⟨rfl,fun k x y h1 h2=>by rw[h1] at h2;cases h2;exact .refl _⟩
 | nil s=>exact⟨rfl,fun k x y h1 h2=>by cases k<;>simp[Go.Ln.cells] at h1 h2;subst h1;subst h2;exact .nil s⟩
 | agg cs cs' hl h=>exact⟨hl,h⟩
 | usl s es es' hl h=>exact⟨rfl,fun k x y h1 h2=>by cases k<;>simp[Go.Ln.cells] at h1 h2;subst h1;subst h2;exact .usl s es es' hl h⟩
theorem Cv.rep2 {v v':V}(h:Cv v v'):(∀{L:dP} {u:Value},RepV w ρ rt (some L) v u→RepV w ρ rt (some L) v' u)∧∀(k:Nat) x y,(Go.Ln.cells v)[k]?=some x→(Go.Ln.cells v')[k]?=some y→∀{L:dP} {u:Value},RepV w ρ rt (some L) x u→RepV w ρ rt (some L) y u:=by
 induction h with
 | refl=>exact⟨fun h=>h,fun k x y h1 h2 L u h=>by rw[h1] at h2;cases h2;exact h⟩
 | nil s=>
  have key:∀{L:dP} {u:Value},RepV w ρ rt (some L) (.isl true []) u→RepV w ρ rt (some L) (.usl s []) u:=by
   intro L u h
   cases h with
   | isl0 _ _ A c hn=>
    obtain⟨rfl,rfl⟩:=hn rfl
    exact .usl0 _ _ _
  exact⟨key,fun k x y h1 h2 L u h=>by cases k<;>simp[Go.Ln.cells] at h1 h2;subst h1;subst h2;exact key h⟩
 | agg cs cs' hl hc ih=>exact⟨(fun h=>by cases h),fun k x y h1 h2=>(ih k x y h1 h2).1⟩
 | usl s es es' hl hc ih=>
  have key:∀{L:dP} {u:Value},RepV w ρ rt (some L) (.usl s es) u→RepV w ρ rt (some L) (.usl s es') u:=by
   intro L u h
   cases h with
   | usl0 _ _ A=>
    have:es'=[]:=by cases es'<;>simp_all
    subst this
    exact .usl0 _ _ _
   | usl _ _ _ b A c arr T g h1 h2 h3 h4 h5 h6 h7 h8=>
    have back:∀{i:Nat} {e':V},es'[i]?=some e'→∃e,es[i]?=some e∧Cv e e':=by
     intro i e' he
     have hi:i<es.length:=by rw[hl];exact (cZ.1 he).1
     exact⟨es[i],eo hi,hc i _ _ (eo hi) he⟩
    have backc:∀{i:Nat} {e':V} {k:Nat} {y:V},es'[i]?=some e'→(Go.Ln.cells e')[k]?=some y→∃e x,es[i]?=some e∧(Go.Ln.cells e)[k]?=some x∧∀{L:dP} {u:Value},RepV w ρ rt (some L) x u→RepV w ρ rt (some L) y u:=by
     intro i e' k y he hy
     obtain⟨e,he2,hcv⟩:=back he
     have hk:k<(Go.Ln.cells e).length:=by rw[hcv.cells.1];exact (cZ.1 hy).1
     exact⟨e,(Go.Ln.cells e)[k],he2,eo hk,(ih i e e' he2 he).2 k _ _ (eo hk) hy⟩
    rw[hl]
    refine .usl _ s es' b A c arr T g h1 h2 (by omega) h4 h5 (fun i e' he=>?_) (fun i e' k y he hy=>?_) (fun i e' k y he hy=>?_)
    ·obtain⟨e,he2,hcv⟩:=back he
     rw[←hcv.cells.1]
     exact h6 i e he2
    ·obtain⟨e,x,he2,hx,_⟩:=backc he hy
     exact h7 i e k x he2 hx
    ·obtain⟨e,x,he2,hx,hcv⟩:=backc he hy
     exact hcv (h8 i e k x he2 hx)
  exact⟨key,fun k x y h1 h2 L u h=>by cases k<;>simp[Go.Ln.cells] at h1 h2;subst h1;subst h2;exact key h⟩
def vo (es es':List V):Prop:=es.length=es'.length∧∀(i:Nat) x y,es[i]?=some x→es'[i]?=some y→Cv x y
theorem vo.row {L:dP}{s:Nat}{es es':List V}(h:vo es es')(hr:cO w ρ rt L s es):cO w ρ rt L s es':=by
 obtain⟨hl,hc⟩:=h
 rcases hr with rfl | ⟨b,arr,T,g,h1,h2,h3,h4,h5⟩
 ·left
  cases es'<;>simp_all
 ·have back:∀{i:Nat} {e':V},es'[i]?=some e'→∃e,es[i]?=some e∧Cv e e':=by
   intro i e' he
   have hi:i<es.length:=by rw[hl];exact (cZ.1 he).1
   exact⟨es[i],eo hi,hc i _ _ (eo hi) he⟩
  refine .inr ⟨b,arr,T,g,h1,h2,fun i e' he=>?_,fun i e' k y he hy=>?_,fun i e' k y he hy=>?_⟩
  ·obtain⟨e,he2,hcv⟩:=back he
   rw[←hcv.cells.1]
   exact h3 i e he2
  ·obtain⟨e,he2,hcv⟩:=back he
   have hk:k<(cells e).length:=by rw[hcv.cells.1];exact (cZ.1 hy).1
   exact h4 i e k _ he2 (eo hk)
  ·obtain⟨e,he2,hcv⟩:=back he
   have hk:k<(cells e).length:=by rw[hcv.cells.1];exact (cZ.1 hy).1
   exact hcv.rep2.2 k _ y (eo hk) hy (h5 i e k _ he2 (eo hk))
theorem Cv.nh {v v':V}(h:Cv v v'):Go.Ln.nh v→Go.Ln.nh v':=by
 induction h with
 | refl=>exact id
 | nil s=>intro _;simp[Go.Ln.nh,nhs]
 | agg cs cs' hl hc ih=>
  intro hn
  simp only[Go.Ln.nh,dS] at hn ⊢
  intro y hy
  obtain⟨k,hk,rfl⟩:=List.mem_iff_getElem.1 hy
  exact ih k _ _ (eo (by omega)) (eo hk) (hn _ (List.getElem_mem (by omega)))
 | usl s es es' hl hc ih=>
  intro hn
  simp only[Go.Ln.nh,dS] at hn ⊢
  intro y hy
  obtain⟨k,hk,rfl⟩:=List.mem_iff_getElem.1 hy
  exact ih k _ _ (eo (by omega)) (eo hk) (hn _ (List.getElem_mem (by omega)))
theorem vo.nhs {es es':List V}(h:vo es es')(hn:nhs es):Go.Ln.nhs es':=by
 rw[dS] at hn ⊢
 intro y hy
 obtain⟨k,hk,rfl⟩:=List.mem_iff_getElem.1 hy
 have h1:=h.1
 exact (h.2 k _ _ (eo (by omega)) (eo hk)).nh (hn _ (List.getElem_mem (by omega)))
theorem gK.row {o : Nat}{r : Root}{es' : List V}(hr : st.rt o=some r)(hc : vo r.es es')(R : gK G m w0 ρ0 w ρ st a) : gK G m w0 ρ0 w ρ { st with rt:=upd st.rt o (some ⟨r.nv + 1,r.s,es'⟩) } a:=by
  have K : Keep (cC (eN st.nx) st.rt) w ρ st.rt w ρ (upd st.rt o (some ⟨r.nv + 1,r.s,es'⟩)):=by
    refine ⟨fun b hb _=>⟨hb,rfl⟩,fun o' nv p hN hl=>⟨?_,fun b n h1 h2=>⟨h1,h2⟩⟩,fun b l h=>⟨h,rfl⟩⟩
    by_cases e : o'=o
    · subst e
      have hnv : ¬ r.nv < nv:=fun h=>hN (.inr ⟨r,hr,h⟩)
      have hp : p=[]:=by
        simp only [cU,cG,cr,upd,if_true] at hl
        split at hl
        · rename_i hc
          simp only [Bool.or_eq_true,List.isEmpty_iff,beq_iff_eq] at hc
          rcases hc with h | h
          · exact h
          · omega
        · simp at hl
      subst hp
      simp [cU,cG,cr,hr,bp]
    · simpa [cU,cG,cr,upd,e] using hl
  have hiff : ∀ o',(upd st.rt o (some ⟨r.nv + 1,r.s,es'⟩)) o'=none ↔ st.rt o'=none:=by
    intro o'
    by_cases e : o'=o
    · subst e; simp [upd,hr]
    · simp [upd,e]
  have hmono : ∀ o' nv,cC (eN st.nx) (upd st.rt o (some ⟨r.nv + 1,r.s,es'⟩)) o' nv→cC (eN st.nx) st.rt o' nv:=by
    intro o' nv h
    rcases h with h | ⟨r',h1,h2⟩
    · exact .inl h
    · by_cases e : o'=o
      · subst e
        simp [upd] at h1
        subst h1
        exact .inr ⟨r,hr,by simp at h2; omega⟩
      · exact .inr ⟨r',by simpa [upd,e] using h1,h2⟩
  exact
    { tm:=⟨R.tm.1,fun i v u hv hu=>(R.tm.2 i v u hv hu).keep K (R.tmn i v hv)⟩
      rok:=fun o' r' hr'=>by
        by_cases e : o'=o
        · subst e
          simp [upd] at hr'
          subst hr'
          exact hc.row (cO.under K (fun b l hb _=>⟨hb,rfl⟩) (R.rok o' r hr) (R.rtn o' r hr))
        · have hr2 : st.rt o'=some r':=by simpa [upd,e] using hr'
          exact cO.under K (fun b l hb _=>⟨hb,rfl⟩) (R.rok o' r' hr2) (R.rtn o' r' hr2)
      inj:=R.inj
      rtn:=fun o' r' hr'=>by
        by_cases e : o'=o
        · subst e
          simp [upd] at hr'
          subst hr'
          exact hc.nhs (R.rtn o' r hr)
        · exact R.rtn o' r' (by simpa [upd,e] using hr')
      lab := ⟨fun b o' l h => ⟨(R.lab.l b o' l h).1, by
          rcases (R.lab.l b o' l h).2 with h1 | ⟨r',h1⟩
          · exact .inl h1
          · right
            by_cases e : o'=o
            · subst e; exact ⟨⟨r.nv + 1,r.s,es'⟩,by simp [upd]⟩
            · exact ⟨r',by simp [upd,e,h1]⟩⟩,(hiff 0).2 R.lab.z,R.lab.f⟩
      fresh:=fun o' ho=>(hiff o').2 (R.fresh o' ho)
      up:=R.up
      tmn:=fun i v hv=>eQ hmono (R.tmn i v hv)
      wk:=R.wk,fr:=R.fr,k0:=R.k0,f0:=R.f0,df:=R.df,gr:=R.gr
      am:=fun i b n h1 h2 h3 h4=>R.am i b n h1 h2 h3 (by
        cases e : st.rt i with
        | some _=>rfl
        | none=>(have h5 : (upd st.rt o (some ⟨r.nv + 1,r.s,es'⟩) i).isSome=true:=h4; rw [(hiff i).2 e] at h5; simp at h5))
      le:=R.le
      nl:=R.nl }
theorem Run.slot {E:Env}{Q:St→Prop}{k:List It}{t j s:Nat}{v:V}(hk:nA k=true)(ht:st.tm[t]?=some v)(hj:(cells v)[j]?=some (.isl true []))(r:Run E m Q k ⟨st.tm.set t (dY v j (.hs st.nx 0 [] s 0 0)),upd st.rt st.nx (some ⟨0,s,[]⟩),st.nx+cE⟩):Run E m Q k st:=
 .split (fun x=>x=_) hk (fun R=>⟨_,_,rfl,gK.slot ht hj R⟩) fun _ h=>h▸r
theorem Run.row {E:Env}{Q:St→Prop}{k:List It}{o:Nat}{r:Root}{es':List V}(hk:nA k=true)(hr:st.rt o=some r)(hc:vo r.es es')(rr:Run E m Q k { st with rt:=upd st.rt o (some ⟨r.nv+1,r.s,es'⟩) }):Run E m Q k st:=
 .split (fun x=>x=_) hk (fun R=>⟨_,_,rfl,gK.row hr hc R⟩) fun _ h=>h▸rr
end
section
theorem gf.weaken {P:Program}{G:Ground}{f:FuncId}{own:List Bool}{F F':List V→Option (V×List V)}(h:gf P G f ⟨own,F⟩)(hF:∀vs x,F' vs=some x→F vs=some x):gf P G f ⟨own,F'⟩:=
 fun w ρ vs us r dG h1 h2 h3 h4=>h w ρ vs us r dG h1 h2 h3 (hF vs _ h4)
theorem gf.levels {P:Program}{G:Ground}{f:FuncId}{own:List Bool}{F:Nat→List V→Option (V×List V)}{F':List V→Option (V×List V)}(h:∀n,gf P G f ⟨own,F n⟩)(hF:∀vs x,F' vs=some x→∃n,F n vs=some x):gf P G f ⟨own,F'⟩:=
 fun w ρ vs us r dG h1 h2 h3 h4=>let ⟨n,h5⟩:=hF vs _ h4;h n w ρ vs us r dG h1 h2 h3 h5
end
section
def Wg (P:Program)(t:TypeId):Option TI:=
 match P.info? t with
 | some i=>match P.underlying t,i.zero with
  | some d,some z=>some ⟨d,i.size,i.bytes,z⟩
  | _,_=>none
 | none=>none
def Ky:List (FuncId×Ent)→FuncId→Option Ent
 | [],_=>none
 | (g,e)::l,f=>bif Nat.beq g f then some e else Ky l f
def S2 (P:Program)(fs:List (FuncId×Ent))(eqs:List TypeId:=[]):Env:=⟨Wg P,Ky fs,eqs⟩
theorem wN {P:Program}{fs:List (FuncId×Ent)}{eqs:List TypeId}(hq:∀t∈eqs,P.stoodInHeld t=false):Agree P (S2 P fs eqs):=by
 have key:∀t ti,Wg P t=some ti→∃i,P.info? t=some i∧i.size=ti.size∧i.bytes=ti.bytes∧i.zero=some ti.zv∧P.underlying t=some ti.desc:=by
  intro t ti h
  unfold Wg at h
  split at h
  ·rename_i i hi
   split at h
   ·rename_i d z hd hz
    cases h
    exact⟨i,hi,rfl,rfl,hz,hd⟩
   ·cases h
  ·cases h
 refine⟨fun t ti h=>?_,fun t ti h=>?_,fun t h=>hq t (by simpa[S2] using h)⟩
 ·obtain⟨i,h1,h2,h3,h4,_⟩:=key t ti h
  exact⟨i,h1,h2,h3,h4⟩
 ·obtain⟨i,_,_,_,_,h5⟩:=key t ti h
  exact h5
theorem Vo {P:Program}{fs:List (FuncId×Ent)}:Agree P (S2 P fs):=wN (by simp)
theorem sb {P:Program}{G:Ground}:∀{fs:List (FuncId×Ent)},(∀p∈fs,gf P G p.1 p.2)→∀f e,Ky fs f=some e→gf P G f e
 | [],_,f,e,h=>by simp[Ky] at h
 | (g,x)::l,hg,f,e,h=>by
  simp only[Ky,cond_eq_ite] at h
  split at h
  ·rename_i hb
   have:g=f:=Nat.eq_of_beq_eq_true hb
   subst this
   cases h
   exact hg (g,x) (by simp)
  ·exact sb (fun p hp=>hg p (List.mem_cons_of_mem _ hp)) f e h
def lk (d:V):List (Nat×V)→Nat→V
 | [],_=>d
 | (k,v)::l,t=>bif Nat.beq k t then v else lk d l t
def aM (d:V)(n:Nat)(l:List (Nat×V)):List V:=(List.range n).map (lk d l)
def ig (dst:Option Nat)(v:V)(l:List (Nat×V)):List (Nat×V):=
 match dst with
 | some t=>(t,v)::l
 | none=>l
def il (d:V)(n:Nat)(l:List (Nat×V)):Operand→Option V
 | .tmp t=>bif Nat.ble (t+1) n then some (lk d l t) else none
 | .const v=>gS v
 | .func f=>some (.fn f [])
 | .global _=>none
def wU (d:V)(n:Nat)(l:List (Nat×V)):List Operand→Option (List V)
 | []=>some []
 | x::xs=>match il d n l x,wU d n l xs with
  | some v,some vs=>some (v::vs)
  | _,_=>none
theorem jv {d:V}{n:Nat}{l:List (Nat×V)}{t:Nat}:(aM d n l)[t]?=if t<n then some (lk d l t) else none:=by
 unfold aM
 rw[List.getElem?_map]
 split
 ·rename_i h;rw[List.getElem?_range h];rfl
 ·rename_i h;rw[List.getElem?_eq_none (by simpa using h)];rfl
theorem nz {d:V}{k:Nat}{v:V}{l:List (Nat×V)}{t:Nat}:lk d ((k,v)::l) t=if k=t then v else lk d l t:=by
 simp only[lk,cond_eq_ite]
 by_cases h:k=t
 ·subst h;simp
 ·have:Nat.beq k t=false:=by
   cases hb:Nat.beq k t with
   | false=>rfl
   | true=>exact absurd (Nat.eq_of_beq_eq_true hb) h
  simp[this,h]
theorem iC {d:V}{n:Nat}{l:List (Nat×V)}{dst:Option Nat}{v:V}:kH (aM d n l) dst v=aM d n (ig dst v l):=by
 cases dst with
 | none=>rfl
 | some t=>
  apply List.ext_getElem?
  intro i
  simp only[kH,ig]
  by_cases h:t=i
  ·subst h
   by_cases hn:t<n
   ·rw[List.getElem?_set_self (by simpa[aM] using hn),jv,if_pos hn,nz,if_pos rfl]
   ·rw[List.getElem?_eq_none (by simpa[aM] using hn),jv,if_neg hn]
  ·rw[List.getElem?_set_ne h,jv,jv,nz,if_neg h]
theorem gC {d:V}{n:Nat}{l:List (Nat×V)}{rt:an}{nx:Nat}{x:Operand}:ev ⟨aM d n l,rt,nx⟩ x=il d n l x:=by
 cases x with
 | tmp t=>
  simp only[ev,il,jv,cond_eq_ite,Nat.ble_eq]
  rfl
 | _=>rfl
theorem xV {d:V}{n:Nat}{l:List (Nat×V)}{rt:an}{nx:Nat}:∀{xs:List Operand},ic ⟨aM d n l,rt,nx⟩ xs=wU d n l xs
 | []=>rfl
 | x::xs=>by
  simp only[ic,wU,gC,xV]
  cases il d n l x<;>cases wU d n l xs<;>rfl
def cL:Code→Code
 | .seq a _=>a
 | .cond _ a _=>a
 | .block _ b=>b
 | .loop b=>b
 | _=>.skip
def cR:Code→Code
 | .seq _ b=>b
 | .cond _ _ b=>b
 | _=>.skip
def cK:Code→Nat
 | .skip=>0
 | .region _ _ false=>1
 | .seq _ _=>2
 | .cond _ _ _=>3
 | .block _ _=>4
 | .loop _=>5
 | .exit _=>6
 | .ret=>7
 | .region _ _ true=>8
 | _=>9
def aac:Code→Array Oper
 | .region _ o _=>o
 | _=>#[]
def Fe:Code→Operand
 | .cond x _ _=>x
 | _=>.const undef
def aQ (fn:Func):Code:=fn.body.getD .skip
section
variable {E : Env} {m : Nat} {Q : St→Prop} {c : Code} {k k' : List It} {st : St}
theorem Lc {b:Bool}(h:cK c=3)(hv:ev st (Fe c)=some (.bool b))(h1:b=true→Run E m Q (.code (cL c)::k) st)(h2:b=false→Run E m Q (.code (cR c)::k) st):Run E m Q (.code c::k) st:=by
 cases c with
 | cond x a b'=>
  simp only[Fe] at hv
  cases b with
  | true=>exact .step (by simp[jA,hv,cL]) (h1 rfl)
  | false=>exact .step (by simp[jA,hv,cR]) (h2 rfl)
 | region _ _ b=>cases b<;>cases h
 | _=>cases h
theorem bO (h:cK c=5)(r:Run E m Q (.code (cL c)::.lp (cL c)::k) st):Run E m Q (.code c::k) st:=by
 cases c with
 | loop b=>exact .step rfl r
 | region _ _ b=>cases b<;>cases h
 | _=>cases h
theorem bR (h:cK c=7)(hq:Q st):Run E m Q (.code c::k) st:=by
 cases c with
 | ret=>exact .step rfl (.done hq)
 | region _ _ b=>cases b<;>cases h
 | _=>cases h
theorem cn (ms:List Nat)(h:cK c=8)(hs:kw (aac c) ms=true)(r:Run E m Q (.dops (aac c) ms 0 []::k) st):Run E m Q (.code c::k) st:=by
 cases c with
 | region _ _ b=>cases b with
  | true=>exact .draw ms hs r
  | false=>cases h
 | _=>cases h
theorem yj (hq:Q st):Run E m Q [] st:=.done hq
theorem dm (r:Run E m Q (.code c::.lp c::k) st):Run E m Q (.lp c::k) st:=.step rfl r
end
def re (ops:Array Oper)(i:Nat):Option (Option Nat×Op):=
 match ops[i]? with
 | some ⟨d,o,_,_,_,none⟩=>some (d,o)
 | _=>none
def mK (ops:Array Oper)(i:Nat):Option (Option Nat×Op×Option Nat×Bool):=
 match ops[i]? with
 | some ⟨d,o,_,_,_,some (j,w)⟩=>some (d,o,(ops[j]?).bind (·.dst),w)
 | _=>none
theorem Hq {ops:Array Oper}{i:Nat}{d:Option Nat}{o:Op}(h:re ops i=some (d,o)):∃x,ops[i]?=some x∧x.dst=d∧x.op=o∧x.guard=none:=by
 unfold re at h
 split at h
 ·rename_i d' o' a b c hx
  cases h
  exact⟨_,hx,rfl,rfl,rfl⟩
 ·cases h
theorem qg {ops:Array Oper}{i:Nat}{d g:Option Nat}{o:Op}{w:Bool}(h:mK ops i=some (d,o,g,w)):∃x j,ops[i]?=some x∧x.dst=d∧x.op=o∧x.guard=some (j,w)∧(ops[j]?).bind (·.dst)=g:=by
 unfold mK at h
 split at h
 ·rename_i d' o' a b c j w' hx
  cases h
  exact⟨_,j,hx,rfl,rfl,rfl,rfl⟩
 ·cases h
def gd (v:V)(w:Bool):Option Bool:=
 match v with
 | .bool b=>some (b==w)
 | .und=>some false
 | _=>none
section
variable {E : Env} {m : Nat} {Q : St→Prop} {ops : Array Oper} {i : Nat} {is : List Nat} {k : List It} {d : V} {n : Nat} {l : List (Nat × V)} {rt rt' : an} {nx : Nat} {dst : Option Nat} {op : Op} {v : V}
theorem HG {x:Oper}(h:x.guard=none){st:St}:ix ops st x=some true:=by simp[ix,h]
theorem su {x:Oper}{j t:Nat}{w b:Bool}(h:x.guard=some (j,w))(hj:(ops[j]?).bind (·.dst)=some t)(hn:t<n)(hb:gd (lk d l t) w=some b):ix ops ⟨aM d n l,rt,nx⟩ x=some b:=by
 simp only[ix,h,rq,hj,cm,jv,if_pos hn]
 unfold gd at hb
 split at hb
 ·rename_i b' hv
  rw[hv]
  cases hb
  cases b'<;>cases w<;>rfl
 ·rename_i hv
  rw[hv]
  cases hb
  cases w<;>rfl
 ·cases hb
theorem aaw (ho:re ops i=some (dst,op))(hv:bu E nx ⟨aM d n l,rt,nx⟩ op=some (v,rt'))(r:Run E m Q (.ops ops is::k) ⟨aM d n (ig dst v l),rt',nx+16⟩):Run E m Q (.ops ops (i::is)::k) ⟨aM d n l,rt,nx⟩:=by
 obtain⟨x,h1,h2,h3,h4⟩:=Hq ho
 refine .step (st':=⟨aM d n (ig dst v l),rt',nx+16⟩) ?_ r
 subst h2 h3
 simp[jA,fT,h1,HG h4,hv,iC,cE]
theorem abx {t:Nat}{w:Bool}(ho:mK ops i=some (dst,op,some t,w))(hn:Nat.ble (t+1) n=true)(hg:gd (lk d l t) w=some true)(hv:bu E nx ⟨aM d n l,rt,nx⟩ op=some (v,rt'))(r:Run E m Q (.ops ops is::k) ⟨aM d n (ig dst v l),rt',nx+16⟩):Run E m Q (.ops ops (i::is)::k) ⟨aM d n l,rt,nx⟩:=by
 obtain⟨x,j,h1,h2,h3,h4,h5⟩:=qg ho
 refine .step (st':=⟨aM d n (ig dst v l),rt',nx+16⟩) ?_ r
 subst h2 h3
 simp[jA,fT,h1,su (rt:=rt) (nx:=nx) h4 h5 (Nat.le_of_ble_eq_true hn) hg,hv,iC,cE]
theorem aax {t:Nat}{w:Bool}(ho:mK ops i=some (dst,op,some t,w))(hn:Nat.ble (t+1) n=true)(hg:gd (lk d l t) w=some false)(r:Run E m Q (.ops ops is::k) ⟨aM d n (ig dst .und l),rt,nx+16⟩):Run E m Q (.ops ops (i::is)::k) ⟨aM d n l,rt,nx⟩:=by
 obtain⟨x,j,h1,h2,h3,h4,h5⟩:=qg ho
 refine .step (st':=⟨aM d n (ig dst .und l),rt,nx+16⟩) ?_ r
 subst h2 h3
 simp[jA,fT,h1,su (rt:=rt) (nx:=nx) h4 h5 (Nat.le_of_ble_eq_true hn) hg,iC,cE]
variable {ms R W : List Nat} {log : nt}
theorem aae (ho:re ops i=some (dst,op))(hv:bu E (nx+16*i) ⟨aM d n l,rt,nx⟩ op=some (v,rt'))(hR:gv ⟨aM d n l,rt,nx⟩ op=R)(hW:iJ E ⟨aM d n l,rt,nx⟩ op=W)(hc:pS nx ms i R W log=true)(r:Run E m Q (.dops ops ms (i+1) ((i,R,W)::log)::k) ⟨aM d n (ig dst v l),rt',nx⟩):Run E m Q (.dops ops ms i log::k) ⟨aM d n l,rt,nx⟩:=by
 obtain⟨x,h1,h2,h3,h4⟩:=Hq ho
 refine .dop (log':=(i,R,W)::log) (st':=⟨aM d n (ig dst v l),rt',nx⟩) ?_ r
 subst h2 h3 hR hW
 simp[nT,fT,h1,HG h4,hv,iC,cE,hc]
theorem abk {t:Nat}{w:Bool}(ho:mK ops i=some (dst,op,some t,w))(hn:Nat.ble (t+1) n=true)(hg:gd (lk d l t) w=some true)(hv:bu E (nx+16*i) ⟨aM d n l,rt,nx⟩ op=some (v,rt'))(hR:gv ⟨aM d n l,rt,nx⟩ op=R)(hW:iJ E ⟨aM d n l,rt,nx⟩ op=W)(hc:pS nx ms i R W log=true)(r:Run E m Q (.dops ops ms (i+1) ((i,R,W)::log)::k) ⟨aM d n (ig dst v l),rt',nx⟩):Run E m Q (.dops ops ms i log::k) ⟨aM d n l,rt,nx⟩:=by
 obtain⟨x,j,h1,h2,h3,h4,h5⟩:=qg ho
 refine .dop (log':=(i,R,W)::log) (st':=⟨aM d n (ig dst v l),rt',nx⟩) ?_ r
 subst h2 h3 hR hW
 simp[nT,fT,h1,su (rt:=rt) (nx:=nx) h4 h5 (Nat.le_of_ble_eq_true hn) hg,hv,iC,cE,hc]
theorem aaf {t:Nat}{w:Bool}(ho:mK ops i=some (dst,op,some t,w))(hn:Nat.ble (t+1) n=true)(hg:gd (lk d l t) w=some false)(hc:pS nx ms i [] [] log=true)(r:Run E m Q (.dops ops ms (i+1) ((i,[],[])::log)::k) ⟨aM d n (ig dst .und l),rt,nx⟩):Run E m Q (.dops ops ms i log::k) ⟨aM d n l,rt,nx⟩:=by
 obtain⟨x,j,h1,h2,h3,h4,h5⟩:=qg ho
 refine .dop (log':=(i,[],[])::log) (st':=⟨aM d n (ig dst .und l),rt,nx⟩) ?_ r
 subst h2 h3
 simp[nT,fT,h1,su (rt:=rt) (nx:=nx) h4 h5 (Nat.le_of_ble_eq_true hn) hg,iC,cE,hc]
theorem abj (h:Nat.ble ops.size i=true)(r:Run E m Q k ⟨aM d n l,rt,nx+16*ops.size⟩):Run E m Q (.dops ops ms i log::k) ⟨aM d n l,rt,nx⟩:=.dend (Nat.le_of_ble_eq_true h) r
theorem Yo {b:Bool}(t:Nat)(ht:lk d l t=.bool b){todo:List It}(h1:b=true→Run E m Q todo ⟨aM d n ((t,.bool true)::l),rt,nx⟩)(h2:b=false→Run E m Q todo ⟨aM d n ((t,.bool false)::l),rt,nx⟩):Run E m Q todo ⟨aM d n l,rt,nx⟩:=by
 have e:∀x,lk d l t=x→aM d n ((t,x)::l)=aM d n l:=by
  rintro x rfl
  apply List.ext_getElem?
  intro j
  rw[jv,jv,nz]
  split
  ·split
   ·rename_i h;rw[h]
   ·rfl
  ·rfl
 cases b with
 | true=>rw[←e _ ht];exact h1 rfl
 | false=>rw[←e _ ht];exact h2 rfl
end
end
section
def str (s:List UInt8):V:=.str ⟨s.toArray⟩
theorem GN {s:List UInt8}:(ByteArray.mk s.toArray).size=s.length:=by simp[ByteArray.size]
section
variable {E : Env} {d : V} {n : Nat} {l : List (Nat × V)} {rt rt' : an} {id : Nat} {a b v z pv xv : V} {x y p c : Operand} {t t' : TypeId}
theorem xT {nx:Nat}{op:BinOp}(hx:il d n l x=some a)(hy:il d n l y=some b)(h:nQ E op t a b (pj x||pj y)=some v):bu E id ⟨aM d n l,rt,nx⟩ (.binOp op t x y t')=some (v,rt):=by simp[bu,gC,hx,hy,h]
theorem aah {nx:Nat}(hx:il d n l x=some a)(h:pe E rt t t' a=some v):bu E id ⟨aM d n l,rt,nx⟩ (.convert t t' x)=some (v,rt):=by simp[bu,gC,hx,h]
theorem abl {nx:Nat}(hx:il d n l x=some a)(h:gx rt a=some (v,rt')):bu E id ⟨aM d n l,rt,nx⟩ (.box t x)=some (.hp id 0 [] (cells v).length 0 0,upd rt' id (some ⟨0,(cells v).length,[v]⟩)):=by simp[bu,gC,hx,h]
theorem aai {nx:Nat}{ti:TI}{cs:List V}(hp:il d n l p=some pv)(ht:E.ty t=some ti)(hc:kb rt pv=some cs)(hs:0<ti.size∧ti.size≤cs.length)(h:ke (eS ti.desc) (cs.take ti.size)=some v):bu E id ⟨aM d n l,rt,nx⟩ (.load t p)=some (v,rt):=by
 simp only[bu,gC,hp,ht,hc,cm]
 rw[if_pos hs,h];rfl
theorem X4 {nx:Nat}(hp:il d n l p=some pv)(hx:il d n l x=some xv)(h:ow E rt t pv xv=some rt'):bu E id ⟨aM d n l,rt,nx⟩ (.store t p x)=some (.und,rt'):=by simp[bu,gC,hp,hx,h]
def faV (rt:an)(fl:Nat×Nat×Bool):V→Option V
 | .iptr e k=>if 0<fl.2.1∧k+fl.1<(cells e).length then some (.iptr e (k+fl.1)) else none
 | .hp o nv p sz i k=>if 0<fl.2.1∧k+fl.1<sz∧(cG rt o nv p).isSome then some (.hp o nv p sz i (k+fl.1)) else none
 | _=>none
theorem cW {nx:Nat}{f:Nat}{fl:Nat×Nat×Bool}(hx:il d n l x=some xv)(hf:fieldAt? E t f=some fl)(h:faV rt fl xv=some v):bu E id ⟨aM d n l,rt,nx⟩ (.fieldAddr t x f)=some (v,rt):=by
 simp only[bu,gC,hx,hf,cm]
 unfold faV at h
 split at h
 ·split at h<;>cases h
  rename_i hc
  simp only;rw[if_pos hc]
 ·split at h<;>cases h
  rename_i hc
  simp only;rw[if_pos hc]
 ·cases h
theorem ah {nx:Nat}{k:IntKind}{i:Int}(hx:il d n l x=some xv)(hi:il d n l y=some (.int k i))(ha:l4 rt xv=true)(h:ip E t xv i=some v):bu E id ⟨aM d n l,rt,nx⟩ (.indexAddr t x y)=some (v,rt):=by
 simp only[bu,gC,hx,hi,cm]
 rw[if_pos ha,h];rfl
theorem l7 {nx:Nat}{k:IntKind}{i:Int}(hx:il d n l x=some xv)(hi:il d n l y=some (.int k i))(h:KG E t xv i=some v):bu E id ⟨aM d n l,rt,nx⟩ (.index t x y)=some (v,rt):=by simp[bu,gC,hx,hi,h]
def ncV (rt:an):V→Bool
 | .hp o nv p _ _ _=>(cG rt o nv p).isSome
 | .iptr _ _=>true
 | _=>false
theorem iL {nx:Nat}(hx:il d n l x=some v)(h:ncV rt v=true):bu E id ⟨aM d n l,rt,nx⟩ (.nilCheck x)=some (v,rt):=by
 simp only[bu,gC,hx,cm]
 unfold ncV at h
 split at h
 ·simp only;rw[if_pos h]
 ·rfl
 ·cases h
def WY (d:V)(n:Nat)(l:List (Nat×V)):Option Operand→Option (Option V)
 | some x=>(il d n l x).map some
 | none=>some none
theorem aaa {nx:Nat}{x:Option Operand}:nW ⟨aM d n l,rt,nx⟩ x=WY d n l x:=by
 cases x with
 | none=>rfl
 | some x=>simp[nW,WY,gC]
theorem gI {nx:Nat}{lo hi:Option Operand}{lv hv:Option V}(hx:il d n l x=some xv)(h1:WY d n l lo=some lv)(h2:WY d n l hi=some hv)(ha:l4 rt xv=true)(h:jm E rt t xv lv hv=some v):bu E id ⟨aM d n l,rt,nx⟩ (.slice t x lo hi none)=some (v,rt):=by
 simp only[bu,gC,hx,aaa,h1,h2,cm]
 rw[if_pos ha,h];rfl
theorem cg {nx:Nat}{ts:Array TypeId}(hx:il d n l x=some xv)(ht:ts[0]?=some t)(ha:l4 rt xv=true)(h:sH (E.desc t) xv=some v):bu E id ⟨aM d n l,rt,nx⟩ (.call { callee:=.builtin .len,args:=#[x],argTypes:=ts })=some (v,rt):=by
 simp only[bu,lA,ic,gC,hx,cm,Option.map_some,fb]
 rw[if_pos ha,ht];simp[h]
theorem jq {nx:Nat}{ts:Array TypeId}(hx:il d n l x=some a)(hy:il d n l y=some b)(ht:ts[0]?=some t)(ht1:ts[1]?=some t')(hs:gi (E.desc t')=true)(h:kA E rt id t a b=some (v,rt')):bu E id ⟨aM d n l,rt,nx⟩ (.call { callee:=.builtin .append,args:=#[x,y],argTypes:=ts })=some (v,rt'):=by
 simp only[bu,lA,ic,gC,hx,hy,cm,Option.map_some,fb,ht,ht1]
 rw[if_pos hs,h]
def Tc (d:V)(n:Nat)(l:List (Nat×V)):List (Nat×Operand)→Option (List (Nat×V))
 | []=>some []
 | (i,x)::xs=>match il d n l x,Tc d n l xs with
  | some v,some vs=>some ((i,v)::vs)
  | _,_=>none
theorem Td {nx:Nat}:∀{xs:List (Nat×Operand)},fO ⟨aM d n l,rt,nx⟩ xs=Tc d n l xs
 | []=>rfl
 | (i,x)::xs=>by
  simp only[fO,Tc,gC,Td]
  cases il d n l x<;>cases Tc d n l xs<;>rfl
def bsV (E:Env)(rt:an)(id:Nat)(t:TypeId)(n:Nat)(ps:List (Nat×V)):Option (V×an):=
 match E.ty t with
  | some { desc:=.slice e,.. }=>(E.ty e).bind fun ei=>(gS ei.zv).bind fun z=>
   if n*ei.size≤16777216∧0<ei.size∧(cells z).length=ei.size∧ay z=eS ei.desc then
    (jO ei.size (eS ei.desc) (List.replicate n z) ps).bind fun es=>(d8 rt es).map fun y=>(.hs id 0 [] ei.size 0 n,upd y.2 id (some ⟨0,ei.size,y.1⟩))
   else none
  | _=>none
theorem ec {nx k:Nat}{ps:Array (Nat×Operand)}{pvs:List (Nat×V)}{r:V×an}(hx:Tc d n l ps.toList=some pvs)(h:bsV E rt id t k pvs=some r):bu E id ⟨aM d n l,rt,nx⟩ (.buildSlice t k ps)=some r:=by
 simp only[bu,Td,hx,cm]
 exact h
def NR (E:Env)(rt:an)(id:Nat)(t:TypeId)(l c:Int):Option (V×an):=
 match E.ty t with
  | some { desc:=.slice e,.. }=>(E.ty e).bind fun ei=>(gS ei.zv).bind fun z=>
   if 0≤l∧l≤c∧c*ei.bytes≤lH∧c≤lH∧0<ei.size∧(cells z).length=ei.size∧ay z=eS ei.desc then
    some (.hs id 0 [] ei.size 0 l.toNat,upd rt id (some ⟨0,ei.size,List.replicate l.toNat z⟩)) else none
  | _=>none
theorem pg {nx:Nat}{k j:Int}{r:V×an}(hx:il d n l x=some (.int .i64 k))(hy:il d n l y=some (.int .i64 j))(h:NR E rt id t k j=some r):bu E id ⟨aM d n l,rt,nx⟩ (.makeSlice t x y)=some r:=by
 simp only[bu,gC,hx,hy,cm]
 unfold NR at h
 split at h
 ·rename_i e sz bt zv htt
  simp only[htt]
  exact h
 ·cases h
theorem bC {nx:Nat}{f:FuncId}{xs:Array Operand}{ts:Array TypeId}{caps args:List V}{fo:Operand}{r:V×an}(hf:il d n l fo=some (.fn f caps))(hx:wU d n l xs.toList=some args)(h:mH E rt id f (args++caps)=some r) :
  bu E id ⟨aM d n l,rt,nx⟩ (.call { callee:=.value fo,args:=xs,argTypes:=ts })=some r:=by
 simp[bu,lA,gC,xV,hx,hf,h]
theorem Kg {rt:an}{id:Nat}:eA rt id []=rt:=by
 funext o
 unfold eA
 rw[if_neg (by simp)]
end
end
section
abbrev I (x:Int):V:=.int .i64 x
abbrev B (b:Bool):V:=.bool b
def fI:List (Nat×Option Root)→Nat→Option Root
 | [],_=>none
 | (k,r)::l,o=>bif Nat.beq k o then r else fI l o
def cb (l:List (Nat×Option Root)):an:=fI l
theorem lI {k:Nat}{r:Option Root}{l:List (Nat×Option Root)}{o:Nat}:fI ((k,r)::l) o=if k=o then r else fI l o:=by
 simp only[fI,cond_eq_ite]
 by_cases h:k=o
 ·subst h;simp
 ·have:Nat.beq k o=false:=by
   cases hb:Nat.beq k o with
   | false=>rfl
   | true=>exact absurd (Nat.eq_of_beq_eq_true hb) h
  simp[this,h]
theorem kx {l:List (Nat×Option Root)}{o:Nat}{r:Option Root}:upd (cb l) o r=cb ((o,r)::l):=by
 funext x
 simp only[upd,cb,lI]
 by_cases h:x=o
 ·subst h;simp
 ·rw[if_neg h,if_neg (fun h'=>h h'.symm)]
def qi (id:Nat):List (Nat×Nat×Root)→List (Nat×Option Root)
 | []=>[]
 | (_,_,r)::R=>(id,some r)::qi (id+1) R
theorem sC {l:List (Nat×Option Root)}:∀{R:List (Nat×Nat×Root)} {id:Nat},eA (cb l) id R=cb (qi id R++l)
 | [],id=>by rw[Kg];rfl
 | (a,k,r)::R,id=>by
  have ih:=@sC l R (id+1)
  funext o
  have h:=congrFun ih o
  simp only[eA,List.length_cons] at h ⊢
  simp only[qi,List.cons_append,cb,lI]
  by_cases ho:id=o
  ·subst ho
   simp
  ·rw[if_neg ho]
   simp only[cb] at h
   rw[←h]
   by_cases hr:id+1≤o∧o<id+1+R.length
   ·rw[if_pos hr,if_pos (by omega),show o - id=(o - (id+1))+1 by omega,List.getElem?_cons_succ]
   ·rw[if_neg hr,if_neg (by omega)]
theorem yo {tm tm':List V}{rt rt':an}{nx nx':Nat}(h1:tm=tm')(h2:rt=rt')(h3:nx=nx'):(⟨tm,rt,nx⟩:St)=⟨tm',rt',nx'⟩:=by rw[h1,h2,h3]
theorem Vz {fn:Func}{vs ys:List V}{R:List (Nat×Nat×Root)}(h:bU 1 0 vs=(ys,R)){n:Nat}{l:List (Nat×V)}(hn:ys++List.replicate (fn.ntmps - vs.length) .und=aM .und n l){nx:Nat}(hx:1+R.length=nx):(enter fn vs).2=⟨aM .und n l,cb (qi 1 R),nx⟩:=by
 unfold enter
 rw[h]
 refine yo hn ?_ hx
 have:=@sC [] R 1
 rw[List.append_nil] at this
 rw[←this]
 rfl
theorem uk {E:Env}{m:Nat}{Q:St→Prop}{k:List It}{st st':St}(h:st=st')(r:Run E m Q k st'):Run E m Q k st:=h▸r
def sD (n:Nat):Nat→List Nat→Bool
 | _,[]=>true
 | lo,x::xs=>Nat.ble lo x&&Nat.ble (x+1) n&&sD n (x+1) xs
theorem xc {L:List Nat}{f:Nat→V}:∀{n a:Nat},gq L a ((List.range' a n).map f)=(List.range' a n).map fun t=>if L.contains t then f t else .dead
 | 0,a=>rfl
 | n+1,a=>by
  simp only[List.range'_succ,List.map_cons,gq]
  rw[xc (n:=n) (a:=a+1)]
theorem qe {d:V}{n:Nat}{l:List (Nat×V)}:aM d n l=(List.range' 0 n).map (lk d l):=by
 unfold aM
 rw[List.range_eq_range']
theorem uS {f:Nat→V}:∀{n a lo:Nat} {L:List Nat},lo≤a→sD (a+n) lo L=true→(∀x∈L,a≤x)→et ((List.range' a n).map fun t=>if L.contains t then f t else .dead)=et (L.map f)
 | 0,a,lo,L,hlo,h,hl=>by
  cases L with
  | nil=>rfl
  | cons x L=>
   simp only[sD,Bool.and_eq_true,Nat.ble_eq] at h
   have:=hl x (by simp)
   omega
 | n+1,a,lo,L,hlo,h,hl=>by
  simp only[List.range'_succ,List.map_cons,et]
  cases L with
  | nil=>
   have ih:=@uS f n (a+1) 0 [] (by omega) rfl (by simp)
   simp only[List.contains_nil,Bool.false_eq_true,if_false,ef,List.nil_append,List.map_nil,et] at ih ⊢
   exact ih
  | cons x L=>
   simp only[sD,Bool.and_eq_true,Nat.ble_eq] at h
   obtain⟨⟨h1,h2⟩,h3⟩:=h
   have hax:=hl x (by simp)
   have asc_ge:∀{L:List Nat} {lo:Nat},sD (a+(n+1)) lo L=true→∀y∈L,lo≤y:=by
    intro L
    induction L with
    | nil=>intro lo _ y hy;cases hy
    | cons z L ih=>
     intro lo h y hy
     simp only[sD,Bool.and_eq_true,Nat.ble_eq] at h
     rcases List.mem_cons.1 hy with rfl | hy
     ·exact h.1.1
     ·have:=ih h.2 y hy;omega
   have hge:=asc_ge h3
   by_cases hx:a=x
   ·subst hx
    have e1:(a::L).contains a=true:=by simp
    rw[if_pos e1]
    simp only[List.map_cons,et]
    congr 1
    have ih:=@uS f n (a+1) (a+1) L (by omega) (by rw[show a+1+n=a+(n+1) by omega];exact h3) hge
    rw[←ih]
    congr 1
    apply List.map_congr_left
    intro t ht
    have hta:a+1≤t:=(List.mem_range'_1.1 ht).1
    have:(a::L).contains t=L.contains t:=by
     simp only[List.contains_cons]
     have:(t==a)=false:=by simp;omega
     rw[this,Bool.false_or]
    rw[this]
   ·have e1:¬(x::L).contains a=true:=by
     simp only[List.contains_eq_mem,decide_eq_true_eq,List.mem_cons,not_or]
     exact⟨hx,fun hm=>by have:=hge a hm;omega⟩
    rw[if_neg e1]
    simp only[ef,List.nil_append]
    exact @uS f n (a+1) (a+1) (x::L) (Nat.le_refl _) (by
     simp only[sD,Bool.and_eq_true,Nat.ble_eq]
     rw[show a+1+n=a+(n+1) by omega]
     exact⟨⟨by omega,h2⟩,h3⟩) (fun y hy=>by
     rcases List.mem_cons.1 hy with rfl | hy
     ·omega
     ·have:=hge y hy;omega)
theorem Pf {d:V}{g:Nat→V}:∀{L:List Nat} {t:Nat},lk d (L.map fun t=>(t,g t)) t=if L.contains t then g t else d
 | [],t=>rfl
 | x::L,t=>by
  simp only[List.map_cons,nz,List.contains_cons]
  rw[Pf]
  by_cases h:x=t
  ·subst h;simp
  ·have:(t==x)=false:=by simp;exact fun h'=>h h'.symm
   rw[if_neg h,this,Bool.false_or]
def vw:List Root→Nat→List (Nat×Option Root)
 | [],_=>[]
 | r::rs,i=>(i,some ⟨0,r.s,r.es⟩)::vw rs (i+1)
theorem N0:∀{rs:List Root} {i o:Nat},fI (vw rs i) o=if i≤o then (rs[o - i]?).map fun r=>⟨0,r.s,r.es⟩ else none
 | [],i,o=>by simp[vw,fI]
 | r::rs,i,o=>by
  simp only[vw,lI]
  rw[N0]
  by_cases h:i=o
  ·subst h;simp
  ·rw[if_neg h]
   by_cases hle:i≤o
   ·rw[if_pos (by omega),if_pos hle,show o - i=(o - (i+1))+1 by omega,List.getElem?_cons_succ]
   ·rw[if_neg (by omega),if_neg hle]
theorem Pp {E:Env}{m:Nat}{Q:St→Prop}{k:List It}{d:V}{n:Nat}{l:List (Nat×V)}{rt:an}{nx:Nat}(L os:List Nat)(rs:List Root)(ha:sD n 0 L=true)(hos:oI (ja m) (et (L.map (lk d l)))=os)(hrs:os.map rt=rs.map some)(hk:nA k=true)(r:Run E m Q k ⟨aM .dead n (L.map fun t=>(t,fu rt os (lk d l t))),cb (vw rs 1),os.length+1⟩):Run E m Q k ⟨aM d n l,rt,nx⟩:=by
 refine .forget L hk (uk ?_ r)
 have hkeep:gq L 0 (aM d n l)=(List.range' 0 n).map fun t=>if L.contains t then lk d l t else .dead:=by rw[qe,xc]
 have hi:et (gq L 0 (aM d n l))=et (L.map (lk d l)):=by
  rw[hkeep]
  exact uS (lo:=0) (Nat.le_refl _) (by rw[Nat.zero_add];exact ha) (fun _ _=>Nat.zero_le _)
 unfold om
 simp only[hi,hos]
 refine yo ?_ ?_ rfl
 ·rw[hkeep,gj,List.map_map,qe]
  apply List.map_congr_left
  intro t _
  simp only[Function.comp]
  rw[Pf]
  split
  ·rfl
  ·rfl
 ·funext o
  simp only[wY,cb]
  rw[N0]
  by_cases h0:o=0
  ·subst h0;simp
  ·rw[if_neg h0,if_pos (by omega)]
   have h1:=congrArg (fun l:List (Option Root)=>l[o - 1]?) hrs
   simp only[List.getElem?_map] at h1 ⊢
   cases ho:os[o - 1]? with
   | none=>
    simp only[ho,Option.map_none] at h1
    cases hr:rs[o - 1]? with
    | none=>rfl
    | some r=>simp[hr] at h1
   | some x=>
    simp only[ho,Option.map_some] at h1
    cases hr:rs[o - 1]? with
    | none=>simp[hr] at h1
    | some r=>
     simp only[hr,Option.map_some,Option.some.injEq] at h1
     simp[h1]
end
section
def Le {α β:Type}(f g:α→Option β):Prop:=∀a b,f a=some b→g a=some b
def OL {α β γ:Type}(e:(α→Option β)→Option γ):Prop:=∀f g,Le f g→∀r,e f=some r→e g=some r
def gQ {α β:Type}(F:(α→Option β)→α→Option β):Nat→α→Option β
 | 0,_=>none
 | k+1,a=>F (gQ F k) a
noncomputable def aP {α β:Type}(F:(α→Option β)→α→Option β)(a:α):Option β:=
 open Classical in if h : ∃ r k,gQ F k a=some r then some h.choose else none
section
variable {α β : Type} {F : (α→Option β)→α→Option β} (hF : ∀ a,OL fun f=>F f a)
include hF
theorem xa:∀k,Le (gQ F k) (gQ F (k+1))
 | 0,_,_,h=>by cases h
 | k+1,a,b,h=>hF a _ _ (xa k) b h
theorem NM {k j:Nat}(h:k≤j):Le (gQ F k) (gQ F j):=by
 induction h with
 | refl=>exact fun _ _ h=>h
 | step _ ih=>exact fun a b h=>xa hF _ a b (ih a b h)
theorem VU {k j:Nat}{a:α}{r r':β}(h:gQ F k a=some r)(h':gQ F j a=some r'):r=r':=by
 rcases Nat.le_total k j with hk | hk
 ·have:=NM hF hk a r h
  rw[h'] at this
  cases this;rfl
 ·have:=NM hF hk a r' h'
  rw[h] at this
  cases this;rfl
theorem js {a:α}{r:β}:aP F a=some r↔∃k,gQ F k a=some r:=by
 unfold aP
 constructor
 ·intro h
  split at h
  ·rename_i hh
   cases h
   exact hh.choose_spec
  ·cases h
 ·rintro⟨k,hk⟩
  have hh:∃r k,gQ F k a=some r:=⟨r,k,hk⟩
  rw[dif_pos hh]
  obtain⟨j,hj⟩:=hh.choose_spec
  rw[VU hF hj hk]
theorem VV (k:Nat):Le (gQ F k) (aP F):=fun a b h=>(js hF).2 ⟨k,h⟩
theorem X5 (hc:∀(f:α→Option β) (g:Nat→α→Option β),(∀k,Le (g k) (g (k+1)))→(∀a b,f a=some b→∃k,g k a=some b)→∀a r,F f a=some r→∃k,F (g k) a=some r)(a:α):aP F a=F (aP F) a:=by
 have h1:∀r,aP F a=some r→F (aP F) a=some r:=fun r h=>by
  obtain⟨k,hk⟩:=(js hF).1 h
  cases k with
  | zero=>cases hk
  | succ k=>exact hF a _ _ (VV hF k) r hk
 have h2:∀r,F (aP F) a=some r→aP F a=some r:=fun r h=>by
  obtain⟨k,hk⟩:=hc (aP F) (gQ F) (xa hF) (fun a b h=>(js hF).1 h) a r h
  exact (js hF).2 ⟨k+1,hk⟩
 cases h:aP F a with
 | none=>
  cases h':F (aP F) a with
  | none=>rfl
  | some r=>rw[h2 r h'] at h;cases h
 | some r=>rw[h1 r h]
theorem VB {P:α→β→Prop}(hs:∀f:α→Option β,(∀a b,f a=some b→P a b)→∀a b,F f a=some b→P a b){a:α}{r:β}(h:aP F a=some r):P a r:=by
 obtain⟨k,hk⟩:=(js hF).1 h
 clear h
 induction k generalizing a r with
 | zero=>cases hk
 | succ k ih=>exact hs (gQ F k) (fun a b h=>ih h) a r hk
end
structure Fin1 {α β γ:Type} (e:(α→Option β)→Option γ):Prop where
 mono:OL e
 cont:∀(f:α→Option β) (g:Nat→α→Option β),(∀k,Le (g k) (g (k+1)))→(∀a b,f a=some b→∃k,g k a=some b)→∀r,e f=some r→∃k,e (g k)=some r
theorem Kn {α β:Type}{g:Nat→α→Option β}(hg:∀k,Le (g k) (g (k+1))){k j:Nat}(h:k≤j):Le (g k) (g j):=by
 induction h with
 | refl=>exact fun _ _ h=>h
 | step _ ih=>exact fun a b h=>hg _ a b (ih a b h)
variable {α β γ δ ε : Type}
theorem aX {e:Option γ}:Fin1 (fun _:α→Option β=>e):=⟨fun _ _ _ _ h=>h,fun _ _ _ _ _ h=>⟨0,h⟩⟩
theorem bv {a:α}:Fin1 (fun f:α→Option β=>f a):=⟨fun _ _ h r e=>h a r e,fun _ _ _ h r e=>h a r e⟩
theorem bi {e:(α→Option β)→Option γ}{k:(α→Option β)→γ→Option δ}(he:Fin1 e)(hk:∀y,Fin1 fun f=>k f y):Fin1 fun f=>(e f).bind (k f):=by
 refine⟨fun f g hfg r h=>?_,fun f g hg hfg r h=>?_⟩
 ·obtain⟨y,h1,h2⟩:=aR.1 h
  exact aR.2 ⟨y,he.mono f g hfg y h1,(hk y).mono f g hfg r h2⟩
 ·obtain⟨y,h1,h2⟩:=aR.1 h
  obtain⟨k1,q1⟩:=he.cont f g hg hfg y h1
  obtain⟨k2,q2⟩:=(hk y).cont f g hg hfg r h2
  exact⟨max k1 k2,aR.2 ⟨y,he.mono _ _ (Kn hg (Nat.le_max_left _ _)) _ q1,(hk y).mono _ _ (Kn hg (Nat.le_max_right _ _)) _ q2⟩⟩
theorem bw {c:Bool}{a b:(α→Option β)→Option γ}(ha:Fin1 a)(hb:Fin1 b):Fin1 fun f=>bif c then a f else b f:=by
 cases c
 ·exact hb
 ·exact ha
def bD {ρ υ:Type}(e:Option (ρ⊕υ))(k:υ→Option ρ):Option ρ:=
 e.bind fun x=>match x with
  | .inl r=>some r
  | .inr u=>k u
def bQ {ρ υ ω:Type}(e:Option (ρ⊕υ))(k:υ→Option (ρ⊕ω)):Option (ρ⊕ω):=
 e.bind fun x=>match x with
  | .inl r=>some (.inl r)
  | .inr u=>k u
theorem bc {ρ υ:Type}{e:(α→Option β)→Option (ρ⊕υ)}{k:(α→Option β)→υ→Option ρ}(he:Fin1 e)(hk:∀y,Fin1 fun f=>k f y):Fin1 fun f=>bD (e f) (k f):=
 bi he fun x=>match x with
  | .inl r=>aX
  | .inr u=>hk u
theorem bd {ρ υ ω:Type}{e:(α→Option β)→Option (ρ⊕υ)}{k:(α→Option β)→υ→Option (ρ⊕ω)}(he:Fin1 e)(hk:∀y,Fin1 fun f=>k f y):Fin1 fun f=>bQ (e f) (k f):=
 bi he fun x=>match x with
  | .inl r=>aX
  | .inr u=>hk u
def cj {α β:Type}(x:α)(k:α→β):β:=k x
theorem bx {x:γ}{k:(α→Option β)→γ→Option δ}(hk:∀y,Fin1 fun f=>k f y):Fin1 fun f=>cj x (k f):=hk x
theorem lJ {γ δ:Type}{x:γ}{k:γ→δ}{r:δ}(h:cj x k=r):∃p,x=p∧k p=r:=⟨x,rfl,h⟩
@[simp] theorem iu {α β:Type}{x:α}{k:α→β}:cj x k=k x:=rfl
theorem bJ {ρ υ:Type}{e:Option (ρ⊕υ)}{k:υ→Option ρ}{r:ρ}(h:bD e k=some r):∃y,e=some y∧(∀r',y=.inl r'→r'=r)∧∀u,y=.inr u→k u=some r:=by
 obtain⟨y,h1,h2⟩:=aR.1 h
 refine⟨y,h1,?_,?_⟩
 ·rintro r' rfl;exact Option.some.inj h2
 ·rintro u rfl;exact h2
theorem bL {ρ υ ω:Type}{e:Option (ρ⊕υ)}{k:υ→Option (ρ⊕ω)}{y0:ρ⊕ω}(h:bQ e k=some y0):∃y,e=some y∧(∀r',y=.inl r'→y0=.inl r')∧∀u,y=.inr u→k u=some y0:=by
 obtain⟨y,h1,h2⟩:=aR.1 h
 refine⟨y,h1,?_,?_⟩
 ·rintro r' rfl;exact (Option.some.inj h2).symm
 ·rintro u rfl;exact h2
@[simp] theorem Ss {ρ υ:Type}{r:ρ}{k:υ→Option ρ}:bD (some (.inl r)) k=some r:=rfl
@[simp] theorem fW {ρ υ:Type}{u:υ}{k:υ→Option ρ}:bD (some (.inr u)) k=k u:=rfl
@[simp] theorem abC {ρ υ ω:Type}{r:ρ}{k:υ→Option (ρ⊕ω)}:bQ (some (.inl r)) k=some (.inl r):=rfl
@[simp] theorem gL {ρ υ ω:Type}{u:υ}{k:υ→Option (ρ⊕ω)}:bQ (some (.inr u)) k=k u:=rfl
theorem cd {F:(α→Option β)→α→Option β}(hF:∀a,Fin1 fun f=>F f a)(a:α):aP F a=F (aP F) a:=
 X5 (fun a=>(hF a).mono) (fun f g h1 h2 a r h=>(hF a).cont f g h1 h2 r h) a
theorem X6 {F:(α→Option β)→α→Option β}(hF:∀a,Fin1 fun f=>F f a){P:α→β→Prop}(hs:∀f:α→Option β,(∀a b,f a=some b→P a b)→∀a b,F f a=some b→P a b){a:α}{r:β}(h:aP F a=some r):P a r:=
 VB (fun a=>(hF a).mono) hs h
section
variable {α β γ δ ε : Type}
def fL (h:α⊕γ→Option (β⊕δ))(a:α):Option β:=(h (.inl a)).bind fun x=>match x with
 | .inl b=>some b
 | .inr _=>none
def fR (h:α⊕γ→Option (β⊕δ))(c:γ):Option δ:=(h (.inr c)).bind fun x=>match x with
 | .inl _=>none
 | .inr d=>some d
def jn (f:α→Option β)(g:γ→Option δ):α⊕γ→Option (β⊕δ)
 | .inl a=>(f a).map .inl
 | .inr c=>(g c).map .inr
theorem IR {f:α→Option β}{g:γ→Option δ}:fL (jn f g)=f:=by
 funext a
 simp only[fL,jn]
 cases f a<;>rfl
theorem IT {f:α→Option β}{g:γ→Option δ}:fR (jn f g)=g:=by
 funext a
 simp only[fR,jn]
 cases g a<;>rfl
theorem W5 {f f':α→Option β}{g g':γ→Option δ}(hf:Le f f')(hg:Le g g'):Le (jn f g) (jn f' g'):=by
 rintro (a | c) b h
 ·obtain⟨x,h1,rfl⟩:=aU.1 h
  simp[jn,hf a x h1]
 ·obtain⟨x,h1,rfl⟩:=aU.1 h
  simp[jn,hg c x h1]
theorem je {a:α}:Fin1 fun h:α⊕γ→Option (β⊕δ)=>fL h a:=bi bv fun x=>aX
theorem kD {c:γ}:Fin1 fun h:α⊕γ→Option (β⊕δ)=>fR h c:=bi bv fun x=>aX
theorem iz {α β γ δ μ ν:Type}{a:α}:Fin1 fun h:(α⊕γ)⊕μ→Option ((β⊕δ)⊕ν)=>fL (fL h) a:=bi je fun x=>aX
theorem jr {α β γ δ μ ν:Type}{c:γ}:Fin1 fun h:(α⊕γ)⊕μ→Option ((β⊕δ)⊕ν)=>fR (fL h) c:=bi je fun x=>aX
theorem iR {α β γ δ μ ν π κ:Type}{a:α}:Fin1 fun h:((α⊕γ)⊕μ)⊕π→Option (((β⊕δ)⊕ν)⊕κ)=>fL (fL (fL h)) a:=bi iz fun x=>aX
theorem iT {α β γ δ μ ν π κ:Type}{c:γ}:Fin1 fun h:((α⊕γ)⊕μ)⊕π→Option (((β⊕δ)⊕ν)⊕κ)=>fR (fL (fL h)) c:=bi iz fun x=>aX
variable {L : (α→Option β)→(γ→Option δ)→γ→Option δ}
theorem ph (hL:∀c,Fin1 fun h:α⊕γ→Option (β⊕δ)=>L (fL h) (fR h) c){c:γ}:Fin1 fun f=>aP (L f) c:=by
 have mono:∀{f f':α→Option β} {g g':γ→Option δ},Le f f'→Le g g'→∀c r,L f g c=some r→L f' g' c=some r:=by
  intro f f' g g' hf hg c r h
  have:=(hL c).mono (jn f g) (jn f' g') (W5 hf hg) r (by simpa only[IR,IT] using h)
  simpa only[IR,IT] using this
 have hm:∀f a,OL fun g=>L f g a:=fun f a g g' hg r h=>mono (fun _ _ h=>h) hg a r h
 have it:∀{f f':α→Option β},Le f f'→∀k,Le (gQ (L f) k) (gQ (L f') k):=by
  intro f f' hf k
  induction k with
  | zero=>intro _ _ h;cases h
  | succ k ih=>exact fun a r h=>mono hf ih a r h
 refine⟨fun f f' hf r h=>?_,fun f g hg hfg r h=>?_⟩
 ·obtain⟨k,hk⟩:=(js (hm f)).1 h
  exact (js (hm f')).2 ⟨k,it hf k c r hk⟩
 ·obtain⟨j,hj⟩:=(js (hm f)).1 h
  have key:∀j c r,gQ (L f) j c=some r→∃k,gQ (L (g k)) j c=some r:=by
   intro j
   induction j with
   | zero=>intro c r h;cases h
   | succ j ih=>
    intro c r h
    have:=(hL c).cont (jn f (gQ (L f) j)) (fun k=>jn (g k) (gQ (L (g k)) j)) (fun k=>W5 (hg k) (it (hg k) j)) (by
     rintro (a | c) b hb
     ·obtain⟨x,h1,rfl⟩:=aU.1 hb
      obtain⟨k,hk⟩:=hfg a x h1
      exact⟨k,by simp[jn,hk]⟩
     ·obtain⟨x,h1,rfl⟩:=aU.1 hb
      obtain⟨k,hk⟩:=ih c x h1
      exact⟨k,by simp[jn,hk]⟩) r (by simp only[IR,IT];exact h)
    simp only[IR,IT] at this
    exact this
  obtain⟨k,hk⟩:=key j c r hj
  exact⟨k,(js (hm (g k))).2 ⟨j,hk⟩⟩
end
end
section
def aC {α:Type}(xs:List α)(i:Int):Option α:=if 0≤i then xs[i.toNat]? else none
def rn {α:Type}(xs:List α)(lo hi:Int):Option (List α):=if 0≤lo∧lo≤hi∧hi≤xs.length then some ((xs.drop lo.toNat).take (hi.toNat - lo.toNat)) else none
def aK {α:Type}(xs:List α)(i:Int)(x:α):List α:=xs.set i.toNat x
def iy {α:Type}(bytes:Nat)(xs ys:List α):Option (List α):=if (xs.length+ys.length)*bytes≤lH∧xs.length+ys.length≤lH then some (xs++ys) else none
def vu {α:Type}(bytes:Nat)(z:α)(n:Int):Option (List α):=if 0≤n∧n*bytes≤lH∧n≤lH then some (List.replicate n.toNat z) else none
def BE (a b:List UInt8):Option (List UInt8):=if a.length+b.length≤9223372036854775807 then some (a++b) else none
abbrev ac (n:Int):Int:=IntKind.i64.wrap n
abbrev len {α:Type}(xs:List α):Int:=(xs.length:Int)
theorem bS {α β:Type}{o:Option α}{f:α→Option β}{r:β}(h:o.bind f=some r):∃x,o=some x∧f x=some r:=aR.1 h
section
variable {E : Env} {m : Nat} {Q : St→Prop} {ops : Array Oper} {i : Nat} {is : List Nat} {k : List It} {d : V} {n : Nat} {l : List (Nat × V)} {rt rt' : an} {nx : Nat} {op : Op} {v : V} {t : Nat}
theorem o (nx':Nat)(v:V)(hx:nx+16=nx')(ho:re ops i=some (some t,op))(hv:bu E nx ⟨aM d n l,rt,nx⟩ op=some (v,rt'))(r:Run E m Q (.ops ops is::k) ⟨aM d n ((t,v)::l),rt',nx'⟩):Run E m Q (.ops ops (i::is)::k) ⟨aM d n l,rt,nx⟩:=by
 subst hx
 exact aaw (dst:=some t) ho hv r
theorem o0 (nx':Nat)(hx:nx+16=nx')(ho:re ops i=some (none,op))(hv:bu E nx ⟨aM d n l,rt,nx⟩ op=some (v,rt'))(r:Run E m Q (.ops ops is::k) ⟨aM d n l,rt',nx'⟩):Run E m Q (.ops ops (i::is)::k) ⟨aM d n l,rt,nx⟩:=by
 subst hx
 exact aaw (dst:=none) ho hv r
theorem og {g:Nat}{w:Bool}(nx':Nat)(v:V)(hx:nx+16=nx')(ho:mK ops i=some (some t,op,some g,w))(hn:Nat.ble (g+1) n=true)(hg:gd (lk d l g) w=some true)(hv:bu E nx ⟨aM d n l,rt,nx⟩ op=some (v,rt'))(r:Run E m Q (.ops ops is::k) ⟨aM d n ((t,v)::l),rt',nx'⟩):Run E m Q (.ops ops (i::is)::k) ⟨aM d n l,rt,nx⟩:=by
 subst hx
 exact abx (dst:=some t) ho hn hg hv r
theorem os {g:Nat}{w:Bool}(nx':Nat)(hx:nx+16=nx')(ho:mK ops i=some (some t,op,some g,w))(hn:Nat.ble (g+1) n=true)(hg:gd (lk d l g) w=some false)(r:Run E m Q (.ops ops is::k) ⟨aM d n ((t,.und)::l),rt,nx'⟩):Run E m Q (.ops ops (i::is)::k) ⟨aM d n l,rt,nx⟩:=by
 subst hx
 exact aax (dst:=some t) ho hn hg r
variable {ms : List Nat} {log : nt}
theorem dp (R W:List Nat)(v:V)(ho:re ops i=some (some t,op))(hv:bu E (nx+16*i) ⟨aM d n l,rt,nx⟩ op=some (v,rt'))(hR:gv ⟨aM d n l,rt,nx⟩ op=R)(hW:iJ E ⟨aM d n l,rt,nx⟩ op=W)(hc:pS nx ms i R W log=true)(r:Run E m Q (.dops ops ms (i+1) ((i,R,W)::log)::k) ⟨aM d n ((t,v)::l),rt',nx⟩):Run E m Q (.dops ops ms i log::k) ⟨aM d n l,rt,nx⟩:=aae (dst:=some t) ho hv hR hW hc r
theorem dp0 (R W:List Nat)(ho:re ops i=some (none,op))(hv:bu E (nx+16*i) ⟨aM d n l,rt,nx⟩ op=some (v,rt'))(hR:gv ⟨aM d n l,rt,nx⟩ op=R)(hW:iJ E ⟨aM d n l,rt,nx⟩ op=W)(hc:pS nx ms i R W log=true)(r:Run E m Q (.dops ops ms (i+1) ((i,R,W)::log)::k) ⟨aM d n l,rt',nx⟩):Run E m Q (.dops ops ms i log::k) ⟨aM d n l,rt,nx⟩:=aae (dst:=none) ho hv hR hW hc r
theorem dg {g:Nat}{w:Bool}(R W:List Nat)(v:V)(ho:mK ops i=some (some t,op,some g,w))(hn:Nat.ble (g+1) n=true)(hg:gd (lk d l g) w=some true)(hv:bu E (nx+16*i) ⟨aM d n l,rt,nx⟩ op=some (v,rt'))(hR:gv ⟨aM d n l,rt,nx⟩ op=R)(hW:iJ E ⟨aM d n l,rt,nx⟩ op=W)(hc:pS nx ms i R W log=true)(r:Run E m Q (.dops ops ms (i+1) ((i,R,W)::log)::k) ⟨aM d n ((t,v)::l),rt',nx⟩):Run E m Q (.dops ops ms i log::k) ⟨aM d n l,rt,nx⟩:=abk (dst:=some t) ho hn hg hv hR hW hc r
theorem ds {g:Nat}{w:Bool}(ho:mK ops i=some (some t,op,some g,w))(hn:Nat.ble (g+1) n=true)(hg:gd (lk d l g) w=some false)(hc:pS nx ms i [] [] log=true)(r:Run E m Q (.dops ops ms (i+1) ((i,[],[])::log)::k) ⟨aM d n ((t,.und)::l),rt,nx⟩):Run E m Q (.dops ops ms i log::k) ⟨aM d n l,rt,nx⟩:=aaf (dst:=some t) ho hn hg hc r
theorem de (nx':Nat)(h:Nat.ble ops.size i=true)(hx:nx+16*ops.size=nx')(r:Run E m Q k ⟨aM d n l,rt,nx'⟩):Run E m Q (.dops ops ms i log::k) ⟨aM d n l,rt,nx⟩:=by
 subst hx
 exact abj h r
end
section
variable {E : Env} {d : V} {n : Nat} {l : List (Nat × V)} {L L' : List (Nat × Option Root)} {id nx : Nat} {a b v z pv xv : V} {x y p c : Operand} {t t' : TypeId} {s : Nat}
theorem mG {rt:an}:∀{vs:List V},vs.all dh=true→fM rt vs=some (vs,rt)
 | [],_=>rfl
 | v::vs,h=>by
  simp only[List.all_cons,Bool.and_eq_true] at h
  have h1:cQ rt v=some (v,rt):=by
   have:=h.1
   cases v<;>simp_all[dh,cQ]
   all_goals (rename_i cs;cases cs<;>simp_all[dh])
  simp[fM,h1,mG h.2]
theorem ap {rt:an}{v:V}(h:(cells v).all dh=true):gx rt v=some (v,rt):=by
 cases v with
 | agg cs=>simp[gx,mG (show cs.all dh=true from h)]
 | _=>
  have:=mG (rt:=rt) h
  simp only[cells,fM,aR,aU] at this
  obtain⟨x,hx,y,hy,he⟩:=this
  simp only[Option.some.injEq,Prod.mk.injEq] at hy he
  simp only[gx,hx]
  obtain⟨x1,x2⟩:=x
  simp at he hy
  subst hy
  simp at he
  rw[he.1,he.2]
def NO (E:Env)(rt:an)(t:TypeId)(pv:V):Option V:=
 (E.ty t).bind fun ti=>(kb rt pv).bind fun cs=>if 0<ti.size∧ti.size≤cs.length then ke (eS ti.desc) (cs.take ti.size) else none
theorem bm {rt:an}(hp:il d n l p=some pv)(h:NO E rt t pv=some v):bu E id ⟨aM d n l,rt,nx⟩ (.load t p)=some (v,rt):=by
 simp only[NO,aR] at h
 obtain⟨ti,ht,cs,hc,h⟩:=h
 split at h
 ·rename_i hs
  exact aai hp ht hc hs h
 ·cases h
theorem dl {rt:an}{rt':an}(hp:il d n l p=some pv)(hx:il d n l x=some xv)(h:ow E rt t pv xv=some rt'):bu E id ⟨aM d n l,rt,nx⟩ (.store t p x)=some (.und,rt'):=X4 hp hx h
theorem WX {a b c:List UInt8}{lit:Bool}(h:BE a b=some c):nQ E .add t (str a) (str b) lit=some (str c):=by
 unfold BE at h
 split at h
 ·rename_i hl
  cases h
  simp only[nQ,str,yp,GN]
  rw[if_pos hl]
  congr 2
 ·cases h
theorem du {α:Type}{f:α→V}{xs:List α}{nl:Bool}(h:gi (E.desc t)=true):sH (E.desc t) (.isl nl (xs.map f))=some (I (len xs)):=by simp[sH,h]
theorem abL {o nv off k:Nat}{p:List (Nat×Nat)}(h:gi (E.desc t)=true):sH (E.desc t) (.hs o nv p s off k)=some (.int .i64 k):=by simp[sH,h]
theorem qc {s:List UInt8}{i:Int}{c:UInt8}{ti:TI}(ht:E.ty t=some ti)(hd:ti.desc=.string)(h:aC s i=some c):KG E t (str s) i=some (.int .u8 c.toNat):=by
 unfold aC at h
 split at h
 ·rename_i h0
  obtain⟨dd,a,b,c'⟩:=ti
  simp only at hd
  subst hd
  simp only[KG,ht,str]
  rw[if_pos h0]
  obtain⟨hl,he⟩:=cZ.1 h
  have e:(ByteArray.mk s.toArray)[i.toNat]?=some c:=by
   simp only[getElem?_def,GN]
   rw[dif_pos hl]
   simp only[Option.some.injEq]
   exact he
  rw[e];rfl
 ·cases h
theorem O2 {s:List UInt8}{a b:Nat}(h:a≤b)(hb:b≤s.length):(ByteArray.mk s.toArray).extract a b=⟨((s.drop a).take (b - a)).toArray⟩:=by
 apply ByteArray.ext
 simp[ByteArray.data_extract,List.extract_toArray]
theorem Lg {s c:List UInt8}{lo hi:Option V}{a b:Int}{rt:an}(hd:E.desc t=some .string)(h1:gn 0 lo=some a)(h2:gn (len s) hi=some b)(h:rn s a b=some c):jm E rt t (str s) lo hi=some (str c):=by
 unfold rn at h
 split at h
 ·rename_i hc
  cases h
  have h2':gn (s.length:Int) hi=some b:=h2
  simp only[jm,hd,str,h1,GN,h2',cm]
  rw[if_pos hc,O2 (by omega) (by omega)]
 ·cases h
theorem aan {α:Type}{f:α→V}{xs:List α}{nl:Bool}{i:Int}{y:α}{e:TypeId}(hd:E.desc t=some (.slice e))(hs:(E.ty e).map (·.size)=some s)(hf:(cells (f y)).length=s)(h:aC xs i=some y):ip E t (.isl nl (xs.map f)) i=some (.iptr (f y) 0):=by
 unfold aC at h
 split at h
 ·rename_i h0
  simp only[ip,hd]
  rw[if_pos h0,List.getElem?_map,h]
  simp only[Option.map_some,cm]
  rw[if_pos (by rw[hs,hf])]
 ·cases h
theorem abt {α:Type}{xs:List α}{o nv off k:Nat}{p:List (Nat×Nat)}{i:Int}{y:α}{e:TypeId}(hd:E.desc t=some (.slice e))(hs:(E.ty e).map (·.size)=some s)(hk:k=xs.length)(h:aC xs i=some y):ip E t (.hs o nv p s off k) i=some (.hp o nv p s (off+i.toNat) 0):=by
 unfold aC at h
 split at h
 ·rename_i h0
  simp only[ip,hd]
  have:=(cZ.1 h).1
  rw[if_pos ⟨h0,by omega,hs⟩]
 ·cases h
theorem aB {α:Type}{f:α→V}{xs:List α}{i:Int}{y:α}(h:aC xs i=some y):(xs.map f)[0+i.toNat]?=some (f y):=by
 unfold aC at h
 split at h
 ·rw[Nat.zero_add,List.getElem?_map,h];rfl
 ·cases h
theorem eK {α:Type}{f:α→V}{xs:List α}{i:Int}{y:α}:(xs.map f).set (0+i.toNat) (f y)=(aK xs i y).map f:=by
 rw[Nat.zero_add,aK,List.map_set]
theorem Tk {α:Type}{f:α→V}{xs ys:List α}{nl:Bool}{lo hi:Option V}{a b:Int}{rt:an}{e:TypeId}{ei:TI}(hd:E.desc t=some (.slice e))(he:E.ty e=some ei)(hf:∀y,(cells (f y)).length=ei.size)(h1:gn 0 lo=some a)(h2:gn (len xs) hi=some b)(h:rn xs a b=some ys):jm E rt t (.isl nl (xs.map f)) lo hi=some (.isl nl (ys.map f)):=by
 unfold rn at h
 split at h
 ·rename_i hc
  cases h
  have h2':gn (xs.length:Int) hi=some b:=h2
  simp only[jm,hd,h1,List.length_map,h2',he,cm]
  rw[if_pos ⟨hc.1,hc.2.1,hc.2.2,by simp[hf]⟩]
  simp[List.map_take,List.map_drop]
 ·cases h
end
end
section
abbrev ae:=List UInt8
section
variable {E : Env} {d : V} {n : Nat} {l : List (Nat × V)} {L L' : List (Nat × Option Root)} {id nx : Nat} {a b v z pv xv : V} {x y p c : Operand} {t t' : TypeId} {s : Nat} {rt rt1 rt2 : an}
theorem eg {o nv nv' k:Nat}{es:List V}(hr:fI L o=some ⟨nv',s,es⟩)(hk:k=es.length):cQ (cb L) (.hs o nv [] s 0 k)=some (.usl s es,cb ((o,none)::L)):=by
 have hv:cr (cb L) o nv []=some ⟨nv',s,es⟩:=by simp[cr,cb,hr]
 simp only[cQ,hv,cm,bp]
 rw[if_pos ⟨trivial,by omega,trivial⟩]
 simp only[eX,List.reverse_nil,Option.map_some]
 rw[kx,hk,List.take_length]
theorem dZ (h:dh v=true):cQ rt v=some (v,rt):=by
 have:=mG (rt:=rt) (vs:=[v]) (by simp[h])
 simp only[fM,aR,aU,Prod.mk.injEq] at this
 obtain⟨⟨x1,x2⟩,hx,⟨y1,y2⟩,hy,h1,h2⟩:=this
 simp only[Option.some.injEq,Prod.mk.injEq] at hy h1 h2
 obtain⟨rfl,rfl⟩:=hy
 simp only[List.cons.injEq,and_true] at h1
 rw[hx,h1,h2]
theorem dM {w:V}{vs ws:List V}(h1:cQ rt v=some (w,rt1))(h2:fM rt1 vs=some (ws,rt2)):fM rt (v::vs)=some (w::ws,rt2):=by simp[fM,h1,h2]
theorem qP:fM rt []=some ([],rt):=rfl
theorem qO {vs ws:List V}(h:fM rt vs=some (ws,rt1)):gx rt (.agg vs)=some (.agg ws,rt1):=by simp[gx,h]
theorem gt {w:V}(ha:ay v=false)(h:cQ rt v=some (w,rt1)):gx rt v=some (w,rt1):=by cases v<;>first | exact h | simp[ay] at ha
theorem d6 {w:V}{vs ws:List V}(h1:gx rt v=some (w,rt1))(h2:d8 rt1 vs=some (ws,rt2)):d8 rt (v::vs)=some (w::ws,rt2):=by simp[d8,h1,h2]
theorem cX:d8 rt []=some ([],rt):=rfl
theorem aag {w:V}(hx:il d n l x=some a)(h:gx (cb L) a=some (w,cb L'))(hs:(cells w).length=s):bu E id ⟨aM d n l,cb L,nx⟩ (.box t x)=some (.hp id 0 [] s 0 0,cb ((id,some ⟨0,s,[w]⟩)::L')):=by
 rw[abl hx h,kx,hs]
theorem fin {fn:Func}{own:List Bool}{ax:List V}{st:St}{vs ws:List V}{rt':an}{r:V}{os:List V}(h1:hP E st fn.results.toList=some vs)(h2:d8 st.rt vs=some (ws,rt'))(h3:vk ws=r)(h4:dG rt' own ax=os):lE E fn own ax st=some (r,os):=by
 simp[lE,h1,h2,h3,h4]
theorem abz {α:Type}{f g:α→V}{xs:List α}{o nv nv' k:Nat}(hr:fI L o=some ⟨nv',s,xs.map f⟩)(hk:k=xs.length)(hi:fP (xs.map f)=xs.map g):gH (cb L) (.hs o nv [] s 0 k)=some (.isl false (xs.map g)):=by
 have hv:cG (cb L) o nv []=some (s,xs.map f):=by simp[cG,cr,cb,hr,bp]
 simp only[gH,hv,cm]
 rw[if_pos ⟨trivial,by rw[hk,List.length_map];omega⟩,List.drop_zero,hk,←List.length_map (f:=f),List.take_length,hi]
def S8:V→V
 | .isl _ es=>.isl false es
 | v=>v
def abN:V→V
 | .agg cs=>.agg (cs.map S8)
 | v=>S8 v
theorem aaz (h:dh v=true):gH rt v=some (S8 v):=by
 cases v<;>simp_all[dh,gH,S8]
theorem pT {w:V}{vs ws:List V}(h1:gH rt v=some w)(h2:iK rt vs=some ws):iK rt (v::vs)=some (w::ws):=by simp[iK,h1,h2]
theorem HB:iK rt []=some []:=rfl
theorem HA {vs ws:List V}(h:iK rt vs=some ws):gX rt (.agg vs)=some (.agg ws):=by simp[gX,h]
theorem shF {f:FuncId}{vs ws:List V}(h:iK rt vs=some ws):gX rt (.fn f vs)=some (.fn f ws):=by simp[gX,h]
def W4:V→Bool
 | .fn _ _=>true
 | _=>false
theorem ul {w:V}(ha:ay v=false)(hf:W4 v=false)(h:gH rt v=some w):gX rt v=some w:=by cases v<;>first | (simp[ay] at ha;done) | (simp[W4] at hf;done) | exact h
theorem bl (h:(cells v).all dh=true):gX rt v=some (abN v):=by
 have all:∀{vs:List V},vs.all dh=true→iK rt vs=some (vs.map S8):=by
  intro vs
  induction vs with
  | nil=>intro _;rfl
  | cons v vs ih=>
   intro h
   simp only[List.all_cons,Bool.and_eq_true] at h
   exact pT (aaz h.1) (ih h.2)
 cases v with
 | agg cs=>exact HA (all h)
 | fn f cs=>
  simp only[cells,List.all_cons,List.all_nil,Bool.and_true] at h
  cases cs with
  | nil=>rfl
  | cons c cs=>simp[dh] at h
 | _=>exact aaz (rt:=rt) (by simpa[cells] using h)
theorem ba {bs:List Bool}{v w:V}{vs ws:List V}(h1:gX rt v=some w)(h2:fk rt bs vs=some ws):fk rt (false::bs) (v::vs)=some (w::ws):=by simp[fk,h1,h2]
theorem gm {bs:List Bool}{v w:V}{vs ws:List V}(h1:nZ rt v=some w)(h2:fk rt bs vs=some ws):fk rt (true::bs) (v::vs)=some (w::ws):=by simp[fk,h1,h2]
theorem cS {bs:List Bool}:fk rt bs []=some []:=by cases bs<;>rfl
theorem qY {α:Type}{f:α→V}(hf:∀x,di (f x)=false):∀{xs:List α},dR (xs.map f)=false
 | []=>rfl
 | x::xs=>by simp[dR,hf x,qY hf]
theorem eh {α:Type}{f g:α→V}(hf:∀x,eD (f x)=g x):∀{xs:List α},fP (xs.map f)=xs.map g
 | []=>rfl
 | x::xs=>by simp[fP,hf x,eh hf]
theorem qB {o nv nv' k:Nat}{es:List V}(hr:fI L o=some ⟨nv',s,es⟩)(hk:k=es.length)(hf:es.all ka=true):fU (cb L) (.hs o nv [] s 0 k)=some (es,cb L):=by
 have hv:cG (cb L) o nv []=some (s,es):=by simp[cG,cr,cb,hr,bp]
 simp only[fU,hv,cm]
 rw[if_pos (by omega)]
 simp only[List.drop_zero,hk,List.take_length]
 rw[if_neg (by simp),if_pos hf]
theorem jh {α:Type}{f:α→V}{xs:List α}{k:Nat}{pvs:List (Nat×V)}{es ws:List V}{e:TypeId}{ei:TI}(hd:E.desc t=some (.slice e))(he:E.ty e=some ei)(hz:gS ei.zv=some z)(hc:k*ei.size≤16777216∧0<ei.size∧(cells z).length=ei.size∧ay z=eS ei.desc)(hp:jO ei.size (eS ei.desc) (List.replicate k z) pvs=some es)(ha:d8 (cb L) es=some (ws,cb L'))(hs:ei.size=s) :
  bsV E (cb L) id t k pvs=some (.hs id 0 [] s 0 k,cb ((id,some ⟨0,s,ws⟩)::L')):=by
 subst hs
 obtain⟨⟨dd,a,b,c⟩,hti,hdd⟩:=rY hd
 simp only at hdd
 subst hdd
 simp only[bsV,hti,he,hz,cm]
 rw[if_pos hc,hp]
 simp only[cm,ha,Option.map_some]
 rw[kx]
theorem dt {rt:an}:∀{vs:List V},(vs.all fun v=>(cells v).all dh)=true→d8 rt vs=some (vs,rt)
 | [],_=>rfl
 | v::vs,h=>by
  simp only[List.all_cons,Bool.and_eq_true] at h
  simp[d8,ap h.1,dt h.2]
theorem W8 {α:Type}{f:α→V}{xs:List α}{z0:α}{k:Int}{e:TypeId}{ei:TI}(hd:E.desc t=some (.slice e))(he:E.ty e=some ei)(hz:gS ei.zv=some (f z0))(hc:0<ei.size∧(cells (f z0)).length=ei.size∧ay (f z0)=eS ei.desc)(hx:vu ei.bytes z0 k=some xs)(hs:ei.size=s) :
  NR E (cb L) id t k k=some (.hs id 0 [] s 0 xs.length,cb ((id,some ⟨0,s,xs.map f⟩)::L)):=by
 subst hs
 unfold vu at hx
 split at hx
 ·rename_i hb
  cases hx
  obtain⟨⟨dd,a,b,c⟩,hti,hdd⟩:=rY hd
  simp only at hdd
  subst hdd
  simp only[NR,hti,he,hz,cm]
  rw[if_pos ⟨hb.1,Int.le_refl _,hb.2.1,hb.2.2,hc.1,hc.2.1,hc.2.2⟩,kx]
  simp
 ·cases hx
theorem cp {α:Type}{f:α→V}{xs:List α}{nl:Bool}{i:Int}{y:α}{e:TypeId}{w:V}(hd:E.desc t=some (.slice e))(hs:(E.ty e).map (·.size)=some s)(hw:f y=w)(hf:(cells w).length=s)(h:aC xs i=some y):ip E t (.isl nl (xs.map f)) i=some (.iptr w 0):=by
 subst hw
 exact aan hd hs hf h
end
noncomputable def pf {α:Type}(f:α→V)(v:V):Option α:=open Classical in if h:∃a,f a=v then some h.choose else none
theorem Fg {α:Type}{f:α→V}(hf:∀a b,f a=f b→a=b)(a:α):pf f (f a)=some a:=by
 unfold pf
 have h:∃b,f b=f a:=⟨a,rfl⟩
 rw[dif_pos h,hf _ _ h.choose_spec]
theorem SC {α:Type}{f:α→V}{v:V}{a:α}(h:pf f v=some a):f a=v:=by
 unfold pf at h
 split at h
 ·rename_i hh
  cases h
  exact hh.choose_spec
 ·cases h
theorem GE {α:Type}{f:α→V}(hf:∀a b,f a=f b→a=b):∀{xs ys:List α},xs.map f=ys.map f→xs=ys
 | [],[],_=>rfl
 | [],_::_,h=>by simp at h
 | _::_,[],h=>by simp at h
 | x::xs,y::ys,h=>by
  simp only[List.map_cons,List.cons.injEq] at h
  rw[hf _ _ h.1,GE hf h.2]
theorem ek {α:Type}{f:α→V}(hf:∀a b,f a=f b→a=b)(xs ys:List α)(h:V.isl false (xs.map f)=.isl false (ys.map f)):xs=ys:=by
 simp only[V.isl.injEq,true_and] at h
 exact GE hf h
theorem bF (a b:Int)(h:I a=I b):a=b:=by simpa[I] using h
theorem bT (a b:ae)(h:str a=str b):a=b:=by
 simp only[str,V.str.injEq,ByteArray.mk.injEq] at h
 simpa using h
theorem lR (y:ae):(cells (str y)).length=1∧(cells (str y)).all fA=true:=⟨rfl,rfl⟩
def uN {A B:Type}(da:V→Option A)(db:V→Option B)(f:A→B→Option (V×List V))(vs:List V):Option (V×List V):=match vs with
 | [a,b]=>(da a).bind fun x=>(db b).bind fun y=>f x y
 | _=>none
section
variable {A B C D E F : Type} {da : V→Option A} {db : V→Option B} {dc : V→Option C} {dd : V→Option D} {de : V→Option E} {df : V→Option F} {vs : List V} {r : V × List V}
theorem abm {f:A→B→Option (V×List V)}(h:uN da db f vs=some r):∃a b x y,vs=[a,b]∧da a=some x∧db b=some y∧f x y=some r:=by
 unfold uN at h;split at h
 ·obtain⟨x,h1,h⟩:=bS h;obtain⟨y,h2,h⟩:=bS h;exact⟨_,_,x,y,rfl,h1,h2,h⟩
 ·cases h
end
end
section
theorem WU (y:Int):eD (I y)=I y:=rfl
theorem nC (y:ae):eD (str y)=str y:=rfl
theorem mU (y:ae):ka (str y)=true:=rfl
section
variable {E : Env} {d : V} {n : Nat} {l : List (Nat × V)} {rt : an}
end
end
section
section
variable {E : Env} {d : V} {n : Nat} {l : List (Nat × V)} {L L' L'' : List (Nat × Option Root)} {id nx : Nat} {a b v z pv xv y : V} {x p c : Operand} {t t' : TypeId} {s s0 s' : Nat} {rt rt' rt1 rt2 : an} {path : List (Nat × Nat)}
theorem aw {es:List V}:bp [] s es=some (s,es):=rfl
theorem iO {es es':List V}{i k:Nat}{e:V}{r:Option (Nat×List V)}(he:es[i]?=some e)(hc:(cells e)[k]?=some (.usl s' es'))(h:bp path s' es'=r):bp ((i,k)::path) s es=r:=by
 simp only[bp,he,hc,h]
theorem cl {es new:List V}:setRow new [] es=some new:=rfl
theorem Pu {es es' es2 es3 new:List V}{i k:Nat}{e e':V}(he:es[i]?=some e)(hc:(cells e)[k]?=some (.usl s' es'))(h:setRow new path es'=some es2)(he':dY e k (.usl s' es2)=e')(hs:es.set i e'=es3):setRow new ((i,k)::path) es=some es3:=by
 simp only[setRow,he,hc,h,Option.map_some,he',hs]
def pI (path:List (Nat×Nat))(nv nv':Nat):Bool:=path.isEmpty||Nat.beq nv' nv
theorem lS {o nv nv':Nat}{es:List V}(hr:fI L o=some ⟨nv',s0,es⟩)(hv:pI path nv nv'=true):cr (cb L) o nv path=some ⟨nv',s0,es⟩:=by
 have:(path.isEmpty||nv'==nv)=true:=by
  simp only[pI,Bool.or_eq_true] at hv ⊢
  rcases hv with h | h
  ·exact .inl h
  ·exact .inr (by simpa using Nat.eq_of_beq_eq_true h)
 simp[cr,cb,hr,this]
theorem qy {o nv nv':Nat}{es es2:List V}(hr:fI L o=some ⟨nv',s0,es⟩)(hv:pI path nv nv'=true)(hp:bp path s0 es=some (s,es2)):cG (cb L) o nv path=some (s,es2):=by
 simp only[cG,lS hr hv,cm,hp]
theorem bZ {o nv nv' i k:Nat}{es es2 cs:List V}{e:V}{ti:TI}(ht:E.ty t=some ti)(hr:fI L o=some ⟨nv',s0,es⟩)(hv:pI path nv nv'=true)(hp:bp path s0 es=some (s,es2))(he:es2[i]?=some e)(hc:pa o nv' path i k ((cells e).drop k)=cs)(hs:(Nat.ble 1 ti.size&&Nat.ble ti.size cs.length)=true)(hv':ke (eS ti.desc) (cs.take ti.size)=some v):NO E (cb L) t (.hp o nv path s i k)=some v:=by
 rw[Bool.and_eq_true,Nat.ble_eq,Nat.ble_eq] at hs
 simp only[NO,ht,cm,kb,lS hr hv,hp,if_true,he,Option.map_some,hc]
 rw[if_pos (show 0<ti.size∧ti.size≤cs.length from hs),hv']
theorem ch {o nv nv' i k:Nat}{es es2 es2' es':List V}{e e':V}{pl:Bool}{ti:TI}(ht:E.ty t=some ti)(ha:gx (cb L) xv=some (y,cb L'))(hl:(Nat.beq (cells y).length ti.size&&(ay y==eS ti.desc)&&Nat.ble 1 ti.size)=true)(hr:fI L' o=some ⟨nv',s0,es⟩)(hv:pI path nv nv'=true)(hp:bp path s0 es=some (s,es2))(he:es2[i]?=some e)(hk:Nat.ble (k+ti.size) (cells e).length=true)(hpl:(((cells e).drop k |>.take ti.size).all dh&&(cells y).all dh)=pl)(he':(if ay e then .agg ((cells e).take k++cells y++(cells e).drop (k+ti.size)) else ((cells e).take k++cells y++(cells e).drop (k+ti.size)).headD .dead)=e')(h2:es2.set i e'=es2')(hset:setRow es2' path es=some es')(nw:Nat)(hnw:(bif pl then nv' else nv'+1)=nw) :
  ow E (cb L) t (.hp o nv path s i k) xv=some (cb ((o,some ⟨nw,s0,es'⟩)::L')):=by
 subst hnw
 simp only[Bool.and_eq_true,Nat.ble_eq,Nat.beq_eq,beq_iff_eq] at hl hk
 simp only[ow,ht,cm,ha]
 rw[if_pos ⟨hl.1.1,hl.1.2,hl.2⟩]
 simp only[lS hr hv,cm,hp,if_true,he]
 rw[if_pos hk,he',h2,hset]
 simp only[Option.map_some]
 rw[kx,hpl]
 cases pl<;>rfl
theorem nP {o nv nv' m:Nat}{es es2:List V}(hr:fI L o=some ⟨nv',s0,es⟩)(hv:pI path nv nv'=true)(hp:bp path s0 es=some (s,es2))(hm:m=es2.length)(ht:eX (cb L) o ⟨nv',s0,es⟩ path=some rt'):cQ (cb L) (.hs o nv path s 0 m)=some (.usl s es2,rt'):=by
 simp only[cQ,lS hr hv,cm,hp]
 rw[if_pos ⟨trivial,by omega,trivial⟩,ht,hm,List.take_length]
 rfl
theorem o9 {o nv':Nat}{es:List V}:eX (cb L) o ⟨nv',s0,es⟩ []=some (cb ((o,none)::L)):=by
 simp only[eX,List.reverse_nil]
 rw[kx]
theorem sY {o nv' i k:Nat}{es es2 es2' es':List V}{e e':V}(hp:bp path s0 es=some (s,es2))(he:es2[i]?=some e)(he':dY e k .dead=e')(h2:es2.set i e'=es2')(hset:setRow es2' path es=some es'):eX (cb L) o ⟨nv',s0,es⟩ (path++[(i,k)])=some (cb ((o,some ⟨nv',s0,es'⟩)::L)):=by
 simp only[eX,List.reverse_append,List.reverse_cons,List.reverse_nil,List.nil_append,List.cons_append,List.reverse_reverse]
 simp only[hp,cm,he,he',h2,hset,Option.map_some]
 rw[kx]
theorem yk {o nv nv' m:Nat}{es es2 es3:List V}(hr:fI L o=some ⟨nv',s0,es⟩)(hv:pI path nv nv'=true)(hp:bp path s0 es=some (s,es2))(hm:m=es2.length)(hi:fP es2=es3):gH (cb L) (.hs o nv path s 0 m)=some (.isl false es3):=by
 simp only[gH,qy hr hv hp,cm]
 rw[if_pos ⟨trivial,by omega⟩,List.drop_zero,hm,List.take_length,hi]
theorem aaA {o nv nv' i k:Nat}{es es2:List V}{e e':V}(hr:fI L o=some ⟨nv',s0,es⟩)(hv:pI path nv nv'=true)(hp:bp path s0 es=some (s,es2))(he:es2[i]?=some e)(hi:eD e=e'):gH (cb L) (.hp o nv path s i k)=some (.iptr e' k):=by
 simp only[gH,qy hr hv hp,cm]
 rw[if_pos trivial,he,←hi];rfl
end
theorem N1 {E:Env}{m:Nat}{Q:St→Prop}{k:List It}{d:V}{n:Nat}{l:List (Nat×V)}{L:List (Nat×Option Root)}{nx:Nat}(t j s nx':Nat)(v':V)(hk:nA k=true)(hn:Nat.ble (t+1) n=true)(hj:(cells (lk d l t))[j]?=some (.isl true []))(hv:dY (lk d l t) j (.hs nx 0 [] s 0 0)=v')(hx:nx+16=nx')(r:Run E m Q k ⟨aM d n ((t,v')::l),cb ((nx,some ⟨0,s,[]⟩)::L),nx'⟩):Run E m Q k ⟨aM d n l,cb L,nx⟩:=by
 have ht:(aM d n l)[t]?=some (lk d l t):=by
  rw[Nat.ble_eq] at hn
  simp[aM,show t<n by omega]
 refine Run.slot (st:=⟨aM d n l,cb L,nx⟩) hk ht hj (s:=s) (uk (yo ?_ ?_ hx) r)
 ·rw[hv]
  exact iC (dst:=some t)
 ·exact kx
theorem gJ {E:Env}{m:Nat}{Q:St→Prop}{k:List It}{tm:List V}{L:List (Nat×Option Root)}{nx:Nat}(o:Nat){nv s:Nat}{es:List V}(es':List V)(hk:nA k=true)(hr:fI L o=some ⟨nv,s,es⟩)(hc:vo es es')(r:Run E m Q k ⟨tm,cb ((o,some ⟨nv+1,s,es'⟩)::L),nx⟩):Run E m Q k ⟨tm,cb L,nx⟩:=
 Run.row (st:=⟨tm,cb L,nx⟩) (r:=⟨nv,s,es⟩) hk hr hc (uk (yo rfl kx rfl) r)
theorem fp:vo [] []:=⟨rfl,fun i x y h=>by simp at h⟩
theorem aN {e e':V}{es es':List V}(h:Cv e e')(hs:vo es es'):vo (e::es) (e'::es'):=
 ⟨by simp[hs.1],fun i x y h1 h2=>by
  cases i with
  | zero=>simp at h1 h2;subst h1;subst h2;exact h
  | succ i=>exact hs.2 i x y (by simpa using h1) (by simpa using h2)⟩
theorem iH {cs cs':List V}(h:vo cs cs'):Cv (.agg cs) (.agg cs'):=.agg cs cs' h.1 h.2
theorem Kr {α:Type}{f:α→V}{z:V}{z0:α}{b:Nat}{k:Int}{xs:List α}(hx:vu b z0 k=some xs)(h:Cv z (f z0)):vo (xs.map fun _=>z) (xs.map f):=by
 unfold vu at hx
 split at hx
 ·cases hx
  refine⟨by simp,fun i x y h1 h2=>?_⟩
  simp only[List.getElem?_map,aU,List.getElem?_replicate] at h1 h2
  obtain⟨a,ha,rfl⟩:=h1
  obtain⟨b,hb,rfl⟩:=h2
  split at hb
  ·cases hb;exact h
  ·cases hb
 ·cases hx
section
variable {o nv i k : Nat} {path : List (Nat × Nat)} {v v' : V} {vs vs' : List V}
end
theorem Sq {E:Env}{t:TypeId}{xs ys:List V}{fs:Array Field}{ti:TI}{lit b:Bool}(ht:E.ty t=some ti)(hd:ti.desc=.struct fs)(hq:E.eqs.contains t=true)(h:jk E.ty 0 fs.toList xs ys=some b):nQ E .eql t (.agg xs) (.agg ys) lit=some (.bool b):=by
 obtain⟨d,s,bt,zv⟩:=ti
 simp only at hd
 subst hd
 simp only[nQ,ht,if_pos hq,h,Option.map_some]
theorem Z9 {E:Env}{t:TypeId}{xs ys:List V}{fs:Array Field}{ti:TI}{lit b:Bool}(ht:E.ty t=some ti)(hd:ti.desc=.struct fs)(hq:E.eqs.contains t=true)(h:jk E.ty 0 fs.toList xs ys=some b):nQ E .neq t (.agg xs) (.agg ys) lit=some (.bool !b):=by
 obtain⟨d,s,bt,zv⟩:=ti
 simp only at hd
 subst hd
 simp only[nQ,ht,if_pos hq,h,Option.map_some]
theorem abr {s:Nat}{es es':List V}(h:fP es=es'):eD (.usl s es)=.isl false es':=by simp only[eD,h]
theorem abq {cs cs':List V}(h:fP cs=cs'):eD (.agg cs)=.agg cs':=by simp only[eD,h]
theorem ks {v v':V}{vs vs':List V}(h:eD v=v')(hs:fP vs=vs'):fP (v::vs)=v'::vs':=by simp only[fP,h,hs]
theorem V7 {E:Env}{st:St}:hP E st []=some []:=rfl
theorem V6 {E:Env}{st:St}{r:ResultVar}{rs:List ResultVar}{v:V}{vs:List V}(h:mi E st r=some v)(hs:hP E st rs=some vs):hP E st (r::rs)=some (v::vs):=by simp only[hP,h,hs,cm,Option.map_some]
theorem GK {E:Env}{d:V}{n:Nat}{l:List (Nat×V)}{rt:an}{nx a:Nat}{t:TypeId}{p v:V}(hn:Nat.ble (a+1) n=true)(hp:lk d l a=p)(h:NO E rt t p=some v):mi E ⟨aM d n l,rt,nx⟩ (.cell a t)=some v:=by
 subst hp
 have ht:(aM d n l)[a]?=some (lk d l a):=by
  rw[Nat.ble_eq] at hn
  simp[aM,show a<n by omega]
 simp only[NO,aR] at h
 obtain⟨ti,h1,cs,h2,h3⟩:=h
 simp only[mi,h1,ht,h2,cm]
 exact h3
theorem VR {α:Type}{f:α→V}(hf:∀a b,f a=f b→a=b)(a b:α)(h:V.iptr (f a) 0=.iptr (f b) 0):a=b:=hf a b (V.iptr.inj h).1
theorem im {k:FuncId}(a b:Unit)(h:V.fn k []=.fn k []):a=b:=rfl
theorem X7 {α:Type}{f:α→V}{k:FuncId}(hf:∀a b,f a=f b→a=b)(a b:α)(h:V.fn k [.iptr (f a) 0]=.fn k [.iptr (f b) 0]):a=b:=by
 have:=(V.fn.inj h).2
 simp only[List.cons.injEq,and_true,V.iptr.injEq] at this
 exact hf a b this
section
variable {E : Env} {L L' : List (Nat × Option Root)} {rt rt' : an} {t : TypeId} {s s0 : Nat} {path : List (Nat × Nat)} {α : Type} {f g : α→V} {xs ys : List α} {a b : Int}
end
theorem ro {k:IntKind}(a b:Int)(h:V.int k a=.int k b):a=b:=(V.int.inj h).2
end
end Go.Ln
